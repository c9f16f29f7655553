import Derived.Test.YtkfnkiejikhglaaG5
import Derived.Test.YtkfnkiejikhglaaR
import Derived.Sort.AssemblyPlain
import Derived.Sort.LotD4
import Derived.Sort.LotD5
set_option linter.unusedVariables false
set_option linter.unusedSimpArgs false
set_option linter.unusedSectionVars false
namespace Go.Proofs.Ytkfnkiejikhglaa.GD
open Go
theorem wrap_u64 (n:Int):IntKind.u64.wrap n=n % 18446744073709551616:=by
 simp[IntKind.wrap,IntKind.bits,IntKind.signed]
theorem tU {n:Nat} (h:n<18446744073709551616):IntKind.u64.wrap (n:Int)=n:=by rw[wrap_u64];omega
def yR (x n:Nat):Nat:=x - x % 2^n
theorem Ge (x n:Nat):yR x n=x/2^n*2^n:=by
 unfold yR
 have:=Nat.div_add_mod x (2^n)
 rw[Nat.mul_comm]at this
 omega
theorem C4 (x n:Nat):yR x n≤x:=by unfold yR;omega
theorem dQ (x n i:Nat):(yR x n).testBit i=(decide (n≤i)&&x.testBit i):=by
 rw[Ge,←Nat.shiftRight_eq_div_pow,←Nat.shiftLeft_eq,Nat.testBit_shiftLeft,Nat.testBit_shiftRight]
 by_cases h:n≤i
 ·simp[h,Nat.add_sub_cancel' h]
 ·simp[h]
theorem u9 (n i:Nat) (hn:n≤64):(18446744073709551616 - 2^n).testBit i=(decide (n≤i)&&decide (i<64)):=by
 have e:18446744073709551616 - 2^n=yR (2^64 - 1) n:=by
  unfold yR
  have hle:2^n≤2^64:=Nat.pow_le_pow_right (by omega) hn
  have hpos:0<2^n:=Nat.pow_pos (by omega)
  have:(2^64 - 1) % 2^n=2^n - 1:=by
   obtain⟨k,hk⟩:∃ k,64=n+k:=⟨64 - n,by omega⟩
   have h64:(2:Nat)^64=2^n*2^k:=by rw[hk,Nat.pow_add]
   have hk1:0<2^k:=Nat.pow_pos (by omega)
   have e2:2^64 - 1=2^n*(2^k - 1)+(2^n - 1):=by
    rw[h64,Nat.mul_sub,Nat.mul_one]
    have:2^n≤2^n*2^k:=Nat.le_mul_of_pos_right _ hk1
    omega
   rw[e2,Nat.mul_add_mod,Nat.mod_eq_of_lt (by omega)]
  rw[this]
  omega
 rw[e,dQ,Nat.testBit_two_pow_sub_one]
theorem rZ {x n:Nat} (hx:x<18446744073709551616) (hn:n≤64):x&&&(18446744073709551616 - 2^n)=yR x n:=by
 apply Nat.eq_of_testBit_eq
 intro i
 rw[Nat.testBit_and,u9 n i hn,dQ]
 by_cases h:i<64
 ·simp[h,Bool.and_comm]
 ·have:x.testBit i=false:=Nat.testBit_lt_two_pow (Nat.lt_of_lt_of_le hx (by
   have:(2:Nat)^64≤2^i:=Nat.pow_le_pow_right (by omega) (by omega)
   simpa using this))
  simp[this]
theorem and_low32 {x:Nat}:x&&&4294967295=x % 4294967296:=by
 have:=Nat.and_two_pow_sub_one_eq_mod x 32
 simpa using this
theorem qy {x y:Nat} (hx:x<18446744073709551616) (hy:y<18446744073709551616):IntKind.u64.wrap (BitVec.ofInt (IntKind.u64).bits (x:Int)&&&BitVec.ofInt (IntKind.u64).bits (y:Int)).toNat=((x&&&y:Nat):Int):=by
 have e:(BitVec.ofInt (IntKind.u64).bits (x:Int)&&&BitVec.ofInt (IntKind.u64).bits (y:Int)).toNat=x&&&y:=by
  show (BitVec.ofInt 64 (x:Int)&&&BitVec.ofInt 64 (y:Int)).toNat=x&&&y
  rw[BitVec.toNat_and]
  simp only[BitVec.ofInt_natCast,BitVec.toNat_ofNat]
  rw[Nat.mod_eq_of_lt (by simpa using hx),Nat.mod_eq_of_lt (by simpa using hy)]
 rw[e]
 exact tU (Nat.lt_of_le_of_lt Nat.and_le_left hx)
theorem r_ {n:Nat} (hn:n≤64):IntKind.u64.wrap (18446744073709551615*2^n)=((18446744073709551616 - 2^n:Nat):Int):=by
 have hle:2^n≤18446744073709551616:=by
  have:(2:Nat)^n≤2^64:=Nat.pow_le_pow_right (by omega) hn
  simpa using this
 have hpos:0<2^n:=Nat.pow_pos (by omega)
 rw[wrap_u64]
 have e:(18446744073709551615*2^n:Int)=((18446744073709551615*2^n:Nat):Int):=by simp
 rw[e]
 have:18446744073709551615*2^n=18446744073709551616*(2^n - 1)+(18446744073709551616 - 2^n):=by
  rw[Nat.mul_sub,Nat.mul_one]
  have:18446744073709551616≤18446744073709551616*2^n:=Nat.le_mul_of_pos_right _ hpos
  omega
 rw[this]
 omega
end Go.Proofs.Ytkfnkiejikhglaa.GD
namespace Go.Proofs.Ytkfnkiejikhglaa.Own
open Go Go.Proofs.Ytkfnkiejikhglaa.GD
def ac (f:Int):Nat:=if f=4 then 32 else if f=6 then 128 else 0
def bZ (f:Int) (h l:Nat):Bool:=if f=6 then true else decide (f=4∧h=0∧l<4294967296)
def gH (f:Int) (h l n:Nat):Nat×Nat:=if 64≤n then (yR h (n - 64),0)else (h,yR l n)
def bN (h l k:Nat):Bool:=if 63<k then h.testBit (k - 64)else l.testBit k
def cy (f:Int) (h l:Nat) (len:Int):Int:=
 if ac f=0 then 2 else if bZ f h l=true∧0≤len∧len≤ac f∧gH f h l (ac f - len.toNat)=(h,l)then 0 else 8
abbrev tV (h l:Nat):D:= .agg [.int .u64 (h:Int),.int .u64 (l:Int)]
abbrev P4 (f:Int) (h l:Nat) (len:Int):D:= .agg [.int .u8 f,.int .u64 (h:Int),.int .u64 (l:Int),.int .i64 len]
structure dR (h l:Nat):Prop where
 h:h<18446744073709551616
 l:l<18446744073709551616
theorem dk (f:Int):Cl ty tab 88 [.int .u8 f]=some [.int .i64 (ac f:Nat)]:=by
 refine rI 0 _ ?_
 unfold nZ ac
 by_cases h4:f=4
 ·simp (disch:=omega) only[ay,h4];rfl
 ·by_cases h6:f=6
  ·simp (disch:=omega) only[ay,h4,h6];rfl
  ·simp (disch:=omega) only[ay,h4,h6];rfl
theorem d8 (f:Int):Cl ty tab 58 [.int .u8 f]=some [.int .i64 (ac f:Nat)]:=by
 refine kP 0 _ ?_
 unfold g9 ac
 by_cases h4:f=4
 ·simp (disch:=omega) only[ay,h4];rfl
 ·by_cases h6:f=6
  ·simp (disch:=omega) only[ay,h4,h6];rfl
  ·simp (disch:=omega) only[ay,h4,h6];rfl
theorem f7 (f:Int) (h l:Nat):Cl ty tab 55 [.int .u8 f,tV h l]=some [.bool (bZ f h l)]:=by
 refine nk 0 _ _ _ ?_
 unfold jM bZ
 by_cases h6:f=6
 ·simp (disch:=omega) only[ay,h6]
 ·by_cases h4:f=4
  ·by_cases hh:h=0
   ·have:((h:Int)=0):=by omega
    have e:decide ((l:Int)<4294967296)=decide (l<4294967296):=by simp only[decide_eq_decide];omega
    simp (disch:=omega) only[ay,h6,h4,this,hh,e,true_and]
   ·have: ¬((h:Int)=0):=by omega
    simp (disch:=omega) only[ay,h6,h4,this,hh,false_and,and_false]
  ·simp (disch:=omega) only[ay,h6,h4,false_and]
theorem gJ (f:Int) (h l:Nat):Cl ty tab 56 [.int .u8 f,tV h l]=some [.bool (bZ f h l)]:=by
 refine iY 0 _ _ _ ?_
 unfold eV bZ
 by_cases h4:f=4
 ·by_cases hh:h=0
  ·have:((h:Int)=0):=by omega
   have e:decide ((l:Int)≤4294967295)=decide (l<4294967296):=by simp only[decide_eq_decide];omega
   have h6: ¬(4:Int)=6:=by omega
   simp (disch:=omega) only[ay,h4,this,hh,e,true_and,h6]
  ·have: ¬((h:Int)=0):=by omega
   have h6: ¬(4:Int)=6:=by omega
   simp (disch:=omega) only[ay,h4,this,hh,false_and,and_false,h6]
 ·by_cases h6:f=6
  ·simp (disch:=omega) only[ay,h6,h4]
  ·simp (disch:=omega) only[ay,h6,h4,false_and]
theorem yS {x n m:Nat} (h:x<m):yR x n<m:=Nat.lt_of_le_of_lt (C4 x n) h
theorem u_ (f:Int) (len:Int) (hf:f=4∨f=6) (h0:0≤len) (h1:len≤ac f):∃ mh ml:Nat,dR mh ml∧Cl ty tab 64 [.int .u8 f,.int .i64 len]=some [tV mh ml]∧
  ∀ h l,dR h l→bZ f h l=true→(h&&&mh,l&&&ml)=gH f h l (ac f - len.toNat):=by
 have IV:∀ n,18446744073709551616 - 2^n<18446744073709551616:=fun n=>by have:0<2^n:=Nat.pow_pos (by omega);omega
 rcases hf with rfl |rfl
 ·have hw:ac 4=32:=rfl
  rw[hw]at h1⊢
  obtain⟨n,rfl⟩:∃ n:Nat,len=n:=⟨len.toNat,by omega⟩
  have e1:((18446744073709551616 - 2^(32 - n):Nat)&&&4294967295)<18446744073709551616:=Nat.lt_of_le_of_lt Nat.and_le_left (IV _)
  refine⟨0,(18446744073709551616 - 2^(32 - n))&&&4294967295,⟨by omega,e1⟩, ?_, ?_⟩
  ·refine jw 0 _ _ ?_
   unfold jl
   have e2:((32:Nat):Int) - n=((32 - n:Nat):Int):=by omega
   have e3:min (32 - n) (IntKind.u64).bits=32 - n:=by show min _ 64=_;omega
   have e4:=r_ (n:=32 - n) (by omega)
   have e5:=qy (IV (32 - n)) (show 4294967295<18446744073709551616 by omega)
   simp (disch:=omega) only[ay,dk,hw,e2,e3,e4]
   rw[show ((4294967295:Int))=((4294967295:Nat):Int)from rfl,e5]
   rfl
  ·intro h l hr ha
   unfold bZ at ha
   simp at ha
   obtain⟨rfl,hl⟩:=ha
   have hn: ¬64≤32 - (n:Int).toNat:=by omega
   unfold gH
   rw[if_neg hn,Int.toNat_natCast]
   have:l&&&((18446744073709551616 - 2^(32 - n))&&&4294967295)=yR l (32 - n):=by
    rw[Nat.and_comm (18446744073709551616 - 2^(32 - n)),←Nat.and_assoc,and_low32,Nat.mod_eq_of_lt hl,rZ hr.l (by omega)]
   rw[this]
   simp
 ·have hw:ac 6=128:=rfl
  rw[hw]at h1⊢
  obtain⟨n,rfl⟩:∃ n:Nat,len=n:=⟨len.toNat,by omega⟩
  have e2:((128:Nat):Int) - n=((128 - n:Nat):Int):=by omega
  by_cases hn:64≤128 - n
  ·refine⟨18446744073709551616 - 2^(128 - n - 64),0,⟨IV _,by omega⟩, ?_, ?_⟩
   ·refine jw 0 _ _ ?_
    unfold jl
    have e3:min (128 - n - 64) (IntKind.u64).bits=128 - n - 64:=by show min _ 64=_;omega
    have e4:=r_ (n:=128 - n - 64) (by omega)
    have e6:((128 - n:Nat):Int) - 64=((128 - n - 64:Nat):Int):=by omega
    have e7:(64:Int)≤((128 - n:Nat):Int):=by omega
    simp (disch:=omega) only[ay,dk,hw,e2,e6,e7,e3,e4,show¬(6:Int)=4 by omega]
    rfl
   ·intro h l hr ha
    unfold gH
    rw[Int.toNat_natCast,if_pos hn,rZ hr.h (by omega),Nat.and_zero]
  ·refine⟨18446744073709551615,18446744073709551616 - 2^(128 - n),⟨by omega,IV _⟩, ?_, ?_⟩
   ·refine jw 0 _ _ ?_
    unfold jl
    have e3:min (128 - n) (IntKind.u64).bits=128 - n:=by show min _ 64=_;omega
    have e4:=r_ (n:=128 - n) (by omega)
    have e7: ¬(64:Int)≤((128 - n:Nat):Int):=by omega
    simp (disch:=omega) only[ay,dk,hw,e2,e7,e3,e4,show¬(6:Int)=4 by omega]
    rfl
   ·intro h l hr ha
    unfold gH
    rw[Int.toNat_natCast,if_neg hn,rZ hr.l (by omega)]
    have:h&&&18446744073709551615=h:=by
     have:=Nat.and_two_pow_sub_one_eq_mod h 64
     simp at this
     rw[this,Nat.mod_eq_of_lt hr.h]
    rw[this]
theorem yT (a b c d:Nat) (h1:dR a b) (h2:dR c d):Cl ty tab 63 [tV a b,tV c d]=some [tV (a&&&c) (b&&&d)]:=by
 refine uS 0 _ _ _ _ ?_
 unfold rH
 rw[qy h1.h h2.h,qy h1.l h2.l]
theorem bT (f:Int):ac f=0∨(f=4∧ac f=32)∨(f=6∧ac f=128):=by
 unfold ac
 by_cases h4:f=4
 ·simp[h4]
 ·by_cases h6:f=6<;>simp[h4,h6]
theorem eI (f:Int) (h l:Nat) (len:Int) (hr:dR h l):Cl ty tab 62 [P4 f h l len]=some [.int .i64 (cy f h l len)]:=by
 refine rJ 0 _ _ _ _ ?_
 unfold n8 cy
 rcases bT f with hw |hw
 ·simp (disch:=omega) only[ay,dk,hw,Int.natCast_zero]
 have Ei: ¬ac f=0:=by rcases hw with⟨_,h⟩ |⟨_,h⟩<;>omega
 have vc: ¬((ac f:Nat):Int)=0:=by omega
 have hf:f=4∨f=6:=by rcases hw with⟨h,_⟩ |⟨h,_⟩;exact .inl h;exact .inr h
 cases ha:bZ f h l
 ·simp (disch:=omega) only[ay,dk,Ei,vc,f7,ha,false_and]
 by_cases h1:len<0
 ·have: ¬0≤len:=by omega
  simp (disch:=omega) only[ay,dk,Ei,vc,f7,ha,h1,this,false_and,and_false]
 by_cases h2:((ac f:Nat):Int)<len
 ·have: ¬len≤((ac f:Nat):Int):=by omega
  simp (disch:=omega) only[ay,dk,Ei,vc,f7,ha,h1,h2,this,false_and,and_false]
 obtain⟨mh,ml,hm,tW,fa⟩:=u_ f len hf (by omega) (by omega)
 have hc:=fa h l hr ha
 have hand:=yT h l mh ml hr hm
 have h3:0≤len:=by omega
 have h4:len≤((ac f:Nat):Int):=by omega
 rw[←hc]
 simp (disch:=omega) only[ay,dk,Ei,vc,f7,ha,h1,h2,tW,hand,h3,h4,true_and]
 by_cases q1:h&&&mh=h
 ·by_cases q2:l&&&ml=l
  ·have e1:((h&&&mh:Nat):Int)=h:=by rw[q1]
   have e2:((l&&&ml:Nat):Int)=l:=by rw[q2]
   rw[e1,e2]
   simp[q1,q2]
  ·have e2: ¬((l&&&ml:Nat):Int)=l:=by omega
   simp[q2,e2]
 ·have e1: ¬((h&&&mh:Nat):Int)=h:=by omega
  simp[q1,e1]
theorem sd (n:Nat) (hn:n≤63):Cl ty tab 89 [.int .i64 n]=some [.int .u64 ((2^n:Nat):Int)]:=by
 obtain⟨k,hk⟩:=bY
 refine kQ k _ ?_
 unfold bA
 have:=bP (F:=bA.b0 (Cl ty tab) k n) n (fun i=>[.int .u64 ((2^i:Nat):Int),.int .i64 i]) (fun _=>some [.int .u64 ((2^n:Nat):Int)]) (fun i hi again ha=> ?_) (fun again=> ?_) k (by omega) 0 (by omega)
 ·exact this
 ·unfold bA.b0
  have h1:(2:Nat)^(i+1)<18446744073709551616:=by
   have:(2:Nat)^(i+1)≤2^63:=Nat.pow_le_pow_right (by omega) (by omega)
   have e:(2:Nat)^63=9223372036854775808:=by rfl
   omega
  have h2:IntKind.u64.wrap (((2^i:Nat):Int)+((2^i:Nat):Int))=((2^(i+1):Nat):Int):=by
   rw[Nat.pow_succ]at h1⊢
   rw[wrap_u64]
   omega
  simp (disch:=omega) only[ay,h2,Int.natCast_add,Int.natCast_one]at ha⊢
  exact ha
 ·unfold bA.b0
  simp (disch:=omega) only[ay]
def bo (w h l:Nat):List D:=(List.range w).map fun i=>D.int .i64 (if bN h l (w - 1 - i)=true then 1 else 0)
theorem pX (x k:Nat):((x/2^k % 2:Nat):Int)=if x.testBit k=true then 1 else 0:=by
 rw[Nat.testBit_eq_decide_div_mod_eq]
 have:x/2^k % 2<2:=Nat.mod_lt _ (by omega)
 by_cases h:x/2^k % 2=1
 ·simp[h]
 ·have:x/2^k % 2=0:=by omega
  simp[this]
theorem wY {x k:Nat} (hx:x<18446744073709551616):IntKind.i64.wrap (Int.tmod (IntKind.u64.wrap ((x:Int).tdiv ((2^k:Nat):Int))) 2)=if x.testBit k=true then 1 else 0:=by
 have h1:(x:Int).tdiv ((2^k:Nat):Int)=((x/2^k:Nat):Int):=rfl
 have h2:x/2^k<18446744073709551616:=Nat.lt_of_le_of_lt (Nat.div_le_self _ _) hx
 rw[h1,tU h2]
 have h3:Int.tmod ((x/2^k:Nat):Int) 2=((x/2^k % 2:Nat):Int):=rfl
 rw[h3,pX]
 split<;>rfl
theorem kn (f:Int) (h l:Nat) (hr:dR h l):Cl ty tab 61 [.int .u8 f,tV h l]=some [.ov 3 (bo (ac f) h l).isEmpty (bo (ac f) h l)]:=by
 obtain⟨k,hk⟩:=bY
 refine lG k _ _ _ ?_
 unfold bH
 simp (disch:=omega) only[ay,d8]
 have hw:ac f≤128:=by rcases bT f with h |⟨_,h⟩ |⟨_,h⟩<;>omega
 have hlen:∀ i,i≤ac f→((bo (ac f) h l).take i).length=i:=fun i hi=>by simp[bo];omega
 have:=bP (F:=bH.b0 (Cl ty tab) k [.int .i64 (ac f:Nat)]) (ac f) (fun i=>[.ov 3 ((bo (ac f) h l).take i).isEmpty ((bo (ac f) h l).take i),.int .i64 i,.pv [.int .u64 (h:Int),.int .u64 (l:Int)]])
  (fun _=>some [.ov 3 (bo (ac f) h l).isEmpty (bo (ac f) h l)]) (fun i hi again ha=> ?_) (fun again=> ?_) k (by omega) 0 (by omega)
 ·simpa using this
 ·unfold bH.b0
  have zX:(bo (ac f) h l).take (i+1)=(bo (ac f) h l).take i++[D.int .i64 (if bN h l (ac f - 1 - i)=true then 1 else 0)]:=by
   rw[List.take_add_one]
   simp[bo,hi]
  have hl1:=hlen i (by omega)
  rw[zX]at ha
  generalize (bo (ac f) h l).take i=pre at ha hl1⊢
  have he:∀ x:D,(pre++[x]).isEmpty=false:=fun x=>by simp
  simp only[he]at ha
  have e1:((ac f:Nat):Int) - 1 - i=((ac f - 1 - i:Nat):Int):=by omega
  unfold bN at ha
  by_cases h63:63<ac f - 1 - i
  ·rw[if_pos h63]at ha
   have e2:((ac f - 1 - i:Nat):Int) - 64=((ac f - 1 - i - 64:Nat):Int):=by omega
   have e3:(63:Int)<((ac f - 1 - i:Nat):Int):=by omega
   have hp:=sd (ac f - 1 - i - 64) (by omega)
   have hne: ¬((2^(ac f - 1 - i - 64):Nat):Int)=0:=by have:0<2^(ac f - 1 - i - 64):=Nat.pow_pos (by omega);omega
   have hb:=wY (k:=ac f - 1 - i - 64) hr.h
   simp (disch:=omega) only[ay,e1,e2,e3,hp,hne,hb,hl1,Int.natCast_add,Int.natCast_one]at ha⊢
   exact ha
  ·rw[if_neg h63]at ha
   have e3: ¬(63:Int)<((ac f - 1 - i:Nat):Int):=by omega
   have hp:=sd (ac f - 1 - i) (by omega)
   have hne: ¬((2^(ac f - 1 - i):Nat):Int)=0:=by have:0<2^(ac f - 1 - i):=Nat.pow_pos (by omega);omega
   have hb:=wY (k:=ac f - 1 - i) hr.l
   simp (disch:=omega) only[ay,e1,e3,hp,hne,hb,hl1,Int.natCast_add,Int.natCast_one]at ha⊢
   exact ha
 ·unfold bH.b0
  have:(bo (ac f) h l).take (ac f)=bo (ac f) h l:=List.take_of_length_le (by simp[bo])
  rw[this]
  simp (disch:=omega) only[ay]
theorem C5 {x n:Nat}:yR x n=x↔∀ k,k<n→x.testBit k=false:=by
 constructor
 ·intro h k hk
  have:=dQ x n k
  rw[h]at this
  simpa[Nat.not_le.2 hk]using this
 ·intro h
  apply Nat.eq_of_testBit_eq
  intro i
  rw[dQ]
  by_cases hi:n≤i
  ·simp[hi]
  ·simp[hi,h i (by omega)]
theorem yU {f:Int} {h l n:Nat} (hr:dR h l):gH f h l n=(h,l)↔∀ k,k<n→bN h l k=false:=by
 unfold gH bN
 by_cases hn:64≤n
 ·rw[if_pos hn]
  simp only[Prod.mk.injEq]
  rw[C5]
  constructor
  ·rintro⟨h1,rfl⟩ k hk
   by_cases h63:63<k
   ·rw[if_pos h63];exact h1 _ (by omega)
   ·rw[if_neg h63];simp
  ·intro hz
   refine⟨fun k hk=> ?_, ?_⟩
   ·have:=hz (k+64) (by omega)
    rw[if_pos (by omega)]at this
    simpa using this
   ·apply Nat.eq_of_testBit_eq
    intro i
    by_cases hi:i<64
    ·have:=hz i (by omega)
     rw[if_neg (by omega)]at this
     rw[this];simp
    ·have h2:l.testBit i=false:=Nat.testBit_lt_two_pow (Nat.lt_of_lt_of_le hr.l (by
      have:(2:Nat)^64≤2^i:=Nat.pow_le_pow_right (by omega) (by omega)
      simpa using this))
     rw[h2];simp
 ·rw[if_neg hn]
  simp only[Prod.mk.injEq,true_and]
  rw[C5]
  constructor
  ·intro h1 k hk
   rw[if_neg (by omega)];exact h1 k hk
  ·intro hz k hk
   have:=hz k hk
   rwa [if_neg (by omega)]at this
theorem tX {w h l i:Nat} (hi:i<w):(bo w h l).getD i .undef= .int .i64 (if bN h l (w - 1 - i)=true then 1 else 0):=by
 simp[bo,zq1,hi]
theorem d9 (f:Int) (h l:Nat) (len:Int) (hr:dR h l):Cl ty tab 28 [P4 f h l len]=some [.int .i64 (cy f h l len)]:=by
 obtain⟨k,hk⟩:=bY
 refine kR k _ _ _ _ ?_
 unfold bU cy
 rcases bT f with hw |hw
 ·simp (disch:=omega) only[ay,d8,hw,Int.natCast_zero]
 have Ei: ¬ac f=0:=by rcases hw with⟨_,h⟩ |⟨_,h⟩<;>omega
 have Ld:ac f≤128:=by rcases hw with⟨_,h⟩ |⟨_,h⟩<;>omega
 have vc: ¬((ac f:Nat):Int)=0:=by omega
 cases ha:bZ f h l
 ·simp (disch:=omega) only[ay,d8,Ei,vc,gJ,ha,false_and]
 by_cases h1:len<0
 ·have: ¬0≤len:=by omega
  simp (disch:=omega) only[ay,d8,Ei,vc,gJ,ha,h1,this,false_and,and_false]
 by_cases h2:((ac f:Nat):Int)<len
 ·have: ¬len≤((ac f:Nat):Int):=by omega
  simp (disch:=omega) only[ay,d8,Ei,vc,gJ,ha,h1,h2,this,false_and,and_false]
 obtain⟨n,rfl⟩:∃ n:Nat,len=n:=⟨len.toNat,by omega⟩
 have h3:(0:Int)≤(n:Int):=by omega
 have h4:(n:Int)≤((ac f:Nat):Int):=by omega
 simp (disch:=omega) only[ay,d8,Ei,vc,gJ,ha,h1,h2,h3,h4,kn f h l hr,true_and]
 have H1:=yU (f:=f) (n:=ac f - n) hr
 have hlen:(bo (ac f) h l).length=ac f:=by simp[bo]
 have:=bk (F:=bU.b0 (Cl ty tab) k [.int .i64 (ac f:Nat)] [.ov 3 (bo (ac f) h l).isEmpty (bo (ac f) h l)]) (σ:=Nat) (fun i=>[.int .i64 i,.ov 3 (bo (ac f) h l).isEmpty (bo (ac f) h l)])
  (fun i=>some [.int .i64 (if ∀ j,j<ac f - i→bN h l j=false then 0 else 8)]) (fun i=>ac f - i) (fun i=>i≤ac f) (fun i hi again hag=> ?_) k n (by omega) (by omega)
 ·refine Eq.trans this ?_
  by_cases hz:∀ j,j<ac f - n→bN h l j=false
  ·rw[if_pos hz,if_pos (H1.2 hz)]
  ·rw[if_neg hz,if_neg (fun h=>hz (H1.1 h))]
 ·unfold bU.b0
  rcases Nat.lt_or_ge i (ac f)with hlt |hge
  ·have hg:=tX (h:=h) (l:=l) hlt
   have zX:=hag (i+1) (by omega) (by omega)
   cases hb:bN h l (ac f - 1 - i)with
   |true=>
    have: ¬∀ j,j<ac f - i→bN h l j=false:=fun hz=>by have:=hz (ac f - 1 - i) (by omega);rw[hb]at this;cases this
    rw[hb]at hg
    simp (disch:=omega) only[ay,hg,hlen,this,Int.reduceEq]
   |false=>
    have:(∀ j,j<ac f - i→bN h l j=false)↔∀ j,j<ac f - (i+1)→bN h l j=false:=by
     constructor
     ·intro hz j hj;exact hz j (by omega)
     ·intro hz j hj
      by_cases e:j=ac f - 1 - i
      ·rw[e];exact hb
      ·exact hz j (by omega)
    simp only[this]
    rw[hb]at hg
    simp (disch:=omega) only[ay,hg,hlen,Int.natCast_add,Int.natCast_one]at zX⊢
    exact zX
  ·have:∀ j,j<ac f - i→bN h l j=false:=fun j hj=>by omega
   simp (disch:=omega) only[ay,this,implies_true]
end Go.Proofs.Ytkfnkiejikhglaa.Own
namespace Go.Proofs.Ytkfnkiejikhglaa.GD.Trie
abbrev Bs:=List Bool
def dX:Bs→Bs→Bs
 |a::x,b::y=>if a=b then a::dX x y else []
 |_,_=>[]
def fM:Bs→Bs→Bool
 |_,[]=>false
 |[],_::_=>true
 |a::x,b::y=>(!a&&b) ||(a==b&&fM x y)
theorem dm:∀ x y:Bs,dX x y<+:x
 |[],y=>by cases y<;>simp[dX]
 |a::x,[]=>by simp[dX]
 |a::x,b::y=>by
  unfold dX
  split
  ·exact (List.prefix_cons_inj a).2 (dm x y)
  ·exact List.nil_prefix
theorem jP:∀ x y:Bs,dX x y<+:y
 |[],y=>by cases y<;>simp[dX]
 |a::x,[]=>by simp[dX]
 |a::x,b::y=>by
  unfold dX
  split
  ·rename_i h;subst h;exact (List.prefix_cons_inj a).2 (jP x y)
  ·exact List.nil_prefix
theorem ot:∀ x:Bs,dX x x=x
 |[]=>rfl
 |a::x=>by simp[dX,ot x]
theorem ou:∀ t x y:Bs,dX (t++x) (t++y)=t++dX x y
 |[],x,y=>rfl
 |a::t,x,y=>by simp[dX,ou t x y]
theorem lM:∀ x y:Bs,dX x y=dX y x
 |[],[]=>rfl
 |[],b::y=>rfl
 |a::x,[]=>rfl
 |a::x,b::y=>by
  unfold dX
  by_cases h:a=b
  ·subst h;simp[lM x y]
  ·rw[if_neg h,if_neg (Ne.symm h)]
theorem zY {t x y:Bs} (h1:t<+:x) (h2:t<+:y):t<+:dX x y:=by
 obtain⟨x,rfl⟩:=h1;obtain⟨y,rfl⟩:=h2
 rw[ou];exact List.prefix_append ..
theorem dS:∀ x:Bs,fM x x=false
 |[]=>rfl
 |a::x=>by cases a<;>simp[fM,dS x]
theorem qz:∀ t x y:Bs,fM (t++x) (t++y)=fM x y
 |[],x,y=>rfl
 |a::t,x,y=>by cases a<;>simp[fM,qz t x y]
theorem jQ:∀ {x y z:Bs},fM x y=true→fM y z=true→fM x z=true
 |_,[],_,h,_=>by cases ‹Bs›<;>simp[fM]at h
 |_,_::_,[],_,h=>by simp[fM]at h
 |[],_::_,_::_,_,_=>rfl
 |a::x,b::y,c::z,h1,h2=>by
  have ih:= @jQ x y z
  cases a<;>cases b<;>cases c<;>simp[fM]at h1 h2⊢
  ·exact ih h1 h2
  ·exact ih h1 h2
theorem ow:∀ x y:Bs,fM x y=true∨x=y∨fM y x=true
 |[],[]=> .inr (.inl rfl)
 |[],_::_=> .inl rfl
 |_::_,[]=> .inr (.inr rfl)
 |a::x,b::y=>by
  have ih:=ow x y
  cases a<;>cases b<;>simp[fM]<;>simpa using ih
theorem tY {x y:Bs} (h:fM x y=true):fM y x=false:=by
 cases h2:fM y x
 ·rfl
 ·have:=jQ h h2;rw[dS]at this;cases this
theorem yV {x y:Bs} (h:fM x y=true):x≠y:=by
 rintro rfl;rw[dS]at h;cases h
theorem zZ {x y:Bs} (h:x<+:y) (hn:x≠y):fM x y=true:=by
 obtain⟨s,rfl⟩:=h
 have:=qz x [] s
 rw[List.append_nil]at this
 rw[this]
 cases s
 ·simp at hn
 ·rfl
def H2 (x y:Bs):Prop:=x=y∨fM x y=true
theorem Ej {x y z:Bs} (h:fM x y=true) (h2:H2 y z):fM x z=true:=by
 rcases h2 with rfl |h2
 ·exact h
 ·exact jQ h h2
theorem z0:∀ {t x y z:Bs},t<+:x→t<+:z→H2 x y→H2 y z→t<+:y
 |[],_,_,_,_,_,_,_=>List.nil_prefix
 |a::t,x,y,z,hx,hz,h1,h2=>by
  obtain⟨x,rfl⟩:=hx;obtain⟨z,rfl⟩:=hz
  rcases h1 with rfl |h1
  ·exact List.prefix_append ..
  rcases h2 with rfl |h2
  ·exact List.prefix_append ..
  cases y with
  |nil=>simp[fM]at h1
  |cons b y=>
   have ih:= @z0 t (t++x) y (t++z) (List.prefix_append ..) (List.prefix_append ..)
   have hb:b=a∧fM (t++x) y=true∧fM y (t++z)=true:=by
    cases a<;>cases b<;>simp[fM]at h1 h2<;>simp[h1,h2]
   obtain⟨rfl,g1,g2⟩:=hb
   exact (List.prefix_cons_inj b).2 (ih (.inr g1) (.inr g2))
structure En where
 k:Bs
 v:List Int
deriving Inhabited
structure Nd where
 k:Bs
 v:List Int
 c0:Int
 c1:Int
deriving Inhabited
def aM (k:Bs) (i:Nat):Bool:=k.getD i false
theorem ir (t s:Bs) (b:Bool):aM (t++b::s) t.length=b:=by simp[aM,List.getD_eq_getElem?_getD]
abbrev qA (l:List En):Prop:=l.Pairwise fun a b=>fM a.k b.k=true
def ix (l:List En) (b:Nat):Int:=if l.isEmpty then -1 else b
def aC (e:En) (r:List En):List En:=if e.k=dX e.k (r.getLastD e).k then r else e::r
def aI (e:En) (r:List En):Bs:=dX e.k (r.getLastD e).k
def ox (t:Bs) (l:List En):List En:=l.takeWhile fun x=> !aM x.k t.length
def sL (t:Bs) (l:List En):List En:=l.dropWhile fun x=> !aM x.k t.length
def bw:Nat→Nat→List En→List Nd
 |0,_,_=>[]
 |_+1,_,[]=>[]
 |n+1,base,e::r=>
  ⟨aI e r,if e.k=aI e r then e.v else [],ix (ox (aI e r) (aC e r)) (base+1),ix (sL (aI e r) (aC e r)) (base+1+(bw n (base+1) (ox (aI e r) (aC e r))).length)⟩::
   (bw n (base+1) (ox (aI e r) (aC e r))++bw n (base+1+(bw n (base+1) (ox (aI e r) (aC e r))).length) (sL (aI e r) (aC e r)))
theorem cD (n base:Nat):bw n base []=[]:=by cases n<;>rfl
theorem lN (e:En) (r:List En):r.getLastD e∈e::r:=by
 rcases List.eq_nil_or_concat r with rfl |⟨r',a,rfl⟩
 ·simp
 ·simp[List.getLastD_concat]
theorem oy {e:En} {r:List En} (h:qA (e::r)) {x:En} (hx:x∈e::r):H2 e.k x.k∧H2 x.k (r.getLastD e).k:=by
 constructor
 ·rcases List.mem_cons.1 hx with rfl |hx
  ·exact .inl rfl
  ·exact .inr ((List.pairwise_cons.1 h).1 x hx)
 ·rcases List.eq_nil_or_concat r with rfl |⟨r',a,rfl⟩
  ·simp at hx;subst hx;exact .inl rfl
  ·rw[List.concat_eq_append]at*
   rw[List.getLastD_concat]
   have:(e::(r'++[a]))=(e::r')++[a]:=rfl
   rw[this]at h hx
   rcases List.mem_append.1 hx with hx |hx
   ·exact .inr ((List.pairwise_append.1 h).2.2 x hx a (by simp))
   ·simp at hx;subst hx;exact .inl rfl
theorem z3 {e:En} {r:List En} (h:qA (e::r)) {x:En} (hx:x∈e::r):aI e r<+:x.k:=
 z0 (dm _ _) (jP _ _) (oy h hx).1 (oy h hx).2
theorem dT {e:En} {r:List En} {x:En} (hx:x∈aC e r):x∈e::r:=by
 unfold aC at hx
 split at hx
 ·exact List.mem_cons_of_mem _ hx
 ·exact hx
theorem Ek {e:En} {r:List En} (h:qA (e::r)) {x:En} (hx:x∈aC e r):x.k≠aI e r:=by
 have Hs:=dT hx
 unfold aC at hx
 split at hx
 ·rename_i he
  have:fM e.k x.k=true:=(List.pairwise_cons.1 h).1 x hx
  intro hc
  rw[hc]at this
  exact yV this he
 ·rename_i he
  intro hc
  have h1:fM (aI e r) e.k=true:=zZ (dm _ _) (fun hh=>he hh.symm)
  have h2:=Ej h1 (oy h Hs).1
  exact yV h2 hc.symm
theorem wZ {e:En} {r:List En} (h:qA (e::r)):qA (aC e r):=by
 unfold aC
 split
 ·exact (List.pairwise_cons.1 h).2
 ·exact h
theorem C6 {e:En} {r:List En} (h:qA (e::r)) {x:En} (hx:x∈aC e r):aI e r++[aM x.k (aI e r).length]<+:x.k:=by
 obtain⟨s,hs⟩:=z3 h (dT hx)
 have hn:=Ek h hx
 cases s with
 |nil=>rw[List.append_nil]at hs;exact absurd hs.symm hn
 |cons b s=>
  rw[←hs,ir]
  exact⟨s,by simp⟩
theorem w7 {t s u:Bs} {a b:Bool} (h:fM (t++a::s) (t++b::u)=true):a=true→b=true:=by
 rw[qz]at h
 intro ha;subst ha
 cases b
 ·simp[fM]at h
 ·rfl
theorem qB {t k:Bs} {b:Bool} (h:t++[b]<+:k):aM k t.length=b:=by
 obtain⟨s,rfl⟩:=h
 rw[List.append_assoc,List.singleton_append,ir]
theorem ve {t:Bs} {l:List En} {x:En} (h:x∈ox t l):aM x.k t.length=false∧x∈l:=by
 unfold ox at h
 induction l with
 |nil=>simp at h
 |cons a l ih=>
  rw[List.takeWhile_cons]at h
  split at h
  ·rename_i ha
   rcases List.mem_cons.1 h with rfl |h
   ·exact⟨by simpa using ha,List.mem_cons_self ..⟩
   ·exact⟨(ih h).1,List.mem_cons_of_mem _ (ih h).2⟩
  ·simp at h
theorem z4 (t:Bs) (l:List En):ox t l++sL t l=l:=List.takeWhile_append_dropWhile
theorem w9 {t:Bs}:∀ {l:List En},qA l→(∀ x,x∈l→t++[aM x.k t.length]<+:x.k)→∀ {x},x∈sL t l→aM x.k t.length=true
 |[],_,_,x,h=>by simp[sL]at h
 |a::l,hs,hp,x,h=>by
  unfold sL at h
  rw[List.dropWhile_cons]at h
  split at h
  ·exact w9 (List.pairwise_cons.1 hs).2 (fun y hy=>hp y (List.mem_cons_of_mem _ hy)) h
  ·rename_i ha
   have ha:aM a.k t.length=true:=by simpa using ha
   rcases List.mem_cons.1 h with rfl |h
   ·exact ha
   ·have h1:=(List.pairwise_cons.1 hs).1 x h
    obtain⟨s1,e1⟩:=hp a (List.mem_cons_self ..)
    obtain⟨s2,e2⟩:=hp x (List.mem_cons_of_mem _ h)
    rw[ha]at e1
    rw[←e1,←e2,List.append_assoc,List.append_assoc]at h1
    exact w7 h1 rfl
structure H3 (e:En) (r Z O:List En):Prop where
 xP:Z++O=aC e r
 zp:∀ x,x∈Z→aI e r++[false]<+:x.k
 op:∀ x,x∈O→aI e r++[true]<+:x.k
 zl:Z.length≤r.length
 ol:O.length≤r.length
 zs:qA Z
 os:qA O
 two:e.k≠aI e r→Z≠[]∧O≠[]
 Le:∀ x,x∈e::r→aI e r<+:x.k
theorem fA {e:En} {r:List En} (h:qA (e::r)):H3 e r (ox (aI e r) (aC e r)) (sL (aI e r) (aC e r)):=by
 have hb:=fun x hx=>C6 (x:=x) h hx
 have ha:=z4 (aI e r) (aC e r)
 have DH:∀ x,x∈ox (aI e r) (aC e r)→aI e r++[false]<+:x.k:=fun x hx=>by
  have:=hb x (ve hx).2
  rwa [(ve hx).1]at this
 have aW:∀ x,x∈sL (aI e r) (aC e r)→aI e r++[true]<+:x.k:=fun x hx=>by
  have h1:x∈aC e r:=by rw[←ha];exact List.mem_append_right _ hx
  have:=hb x h1
  rwa [w9 (wZ h) hb hx]at this
 have hs:=wZ h
 rw[←ha]at hs
 have Br:e.k≠aI e r→ox (aI e r) (aC e r)≠[]∧sL (aI e r) (aC e r)≠[]:=by
  intro hne
  have hr:aC e r=e::r:=by unfold aC;exact if_neg hne
  have he:=hb e (by rw[hr];exact List.mem_cons_self ..)
  have hl:=hb (r.getLastD e) (by rw[hr];exact lN e r)
  have hlt:fM e.k (r.getLastD e).k=true:=by
   rcases (oy h (List.mem_cons_self ..)).2 with h1 |h1
   ·exact absurd (show e.k=aI e r by unfold aI;rw[←h1,ot]) hne
   ·exact h1
  have hd:aM e.k (aI e r).length=false∧aM (r.getLastD e).k (aI e r).length=true:=by
   obtain⟨s1,e1⟩:=he
   obtain⟨s2,e2⟩:=hl
   have sR:aI e r=dX e.k (r.getLastD e).k:=rfl
   generalize hA:aM e.k (aI e r).length=A at*
   generalize hB:aM (r.getLastD e).k (aI e r).length=B at*
   generalize aI e r=t at*
   rw[←e1,←e2,List.append_assoc,List.append_assoc,ou]at sR
   rw[←e1,←e2,List.append_assoc,List.append_assoc]at hlt
   have xL:dX ([A]++s1) ([B]++s2)=[]:=by
    have:=congrArg List.length sR
    rw[List.length_append]at this
    exact List.length_eq_zero_iff.1 (by omega)
   cases A<;>cases B
   ·simp[dX]at xL
   ·exact⟨rfl,rfl⟩
   ·exact absurd (w7 hlt rfl) (by simp)
   ·simp[dX]at xL
  constructor
  ·rw[hr];unfold ox;rw[List.takeWhile_cons,hd.1];simp
  ·intro hn
   rw[hn,List.append_nil,hr]at ha
   have:r.getLastD e∈ox (aI e r) (aC e r):=by rw[hr,ha];exact lN e r
   have:=(ve this).1
   rw[hd.2]at this;cases this
 have hlen:(ox (aI e r) (aC e r)).length+(sL (aI e r) (aC e r)).length=(aC e r).length:=by rw[←List.length_append,ha]
 have HK:(ox (aI e r) (aC e r)).length≤r.length∧(sL (aI e r) (aC e r)).length≤r.length:=by
  by_cases hne:e.k=aI e r
  ·have:aC e r=r:=by unfold aC;exact if_pos hne
   rw[this]at hlen⊢
   omega
  ·have hr:aC e r=e::r:=by unfold aC;exact if_neg hne
   have:=Br hne
   have h1:=List.length_pos_iff.2 this.1
   have h2:=List.length_pos_iff.2 this.2
   rw[hr]at hlen h1 h2⊢
   simp only[List.length_cons]at hlen
   omega
 exact⟨ha,DH,aW,HK.1,HK.2,(List.pairwise_append.1 hs).1,(List.pairwise_append.1 hs).2.1,Br,fun x hx=>z3 h hx⟩
def jB (l:List En):List Nd:=bw l.length 0 l
def own (l:List Nd):List En:=(l.filter fun x=> !x.v.isEmpty).map fun x=>⟨x.k,x.v⟩
theorem qC (a b:List Nd):own (a++b)=own a++own b:=by simp[own]
theorem oz:∀ (n base:Nat) (l:List En),qA l→l.length≤n→(∀ e,e∈l→e.v≠[])→own (bw n base l)=l
 |n,base,[],_,_,_=>by rw[cD];rfl
 |0,base,e::r,_,h,_=>by simp at h
 |n+1,base,e::r,hs,hn,hv=>by
  have sp:=fA hs
  simp only[List.length_cons]at hn
  have Fp:∀ x,x∈aC e r→x.v≠[]:=fun x hx=>hv x (dT hx)
  have hz:=fun b=>oz n b _ sp.zs (by have:=sp.zl;omega) (fun x hx=>Fp x (by rw[←sp.xP];exact List.mem_append_left _ hx))
  have ho:=fun b=>oz n b _ sp.os (by have:=sp.ol;omega) (fun x hx=>Fp x (by rw[←sp.xP];exact List.mem_append_right _ hx))
  simp only[bw]
  rw[show ∀ (x:Nd) (l:List Nd),x::l=[x]++l from fun _ _=>rfl,qC,qC,hz,ho,sp.xP]
  have Gf:=hv e (List.mem_cons_self ..)
  by_cases he:e.k=aI e r
  ·have h1:aC e r=r:=by unfold aC;exact if_pos he
   rw[h1,if_pos he,←he]
   simp[own,Gf]
  ·have h1:aC e r=e::r:=by unfold aC;exact if_neg he
   rw[h1,if_neg he]
   simp[own]
theorem gK:∀ (n base:Nat) (l:List En) (t:Bs),qA l→l.length≤n→(∀ e,e∈l→t<+:e.k)→∀ x,x∈bw n base l→t<+:x.k
 |n,base,[],t,_,_,_,x,hx=>by rw[cD]at hx;cases hx
 |0,base,e::r,t,_,h,_,x,hx=>by simp at h
 |n+1,base,e::r,t,hs,hn,hp,x,hx=>by
  have sp:=fA hs
  simp only[List.length_cons]at hn
  have H4:∀ y,y∈aC e r→t<+:y.k:=fun y hy=>hp y (dT hy)
  simp only[bw]at hx
  rcases List.mem_cons.1 hx with rfl |hx
  ·exact zY (hp e (List.mem_cons_self ..)) (hp _ (lN e r))
  rcases List.mem_append.1 hx with hx |hx
  ·exact gK n _ _ t sp.zs (by have:=sp.zl;omega) (fun y hy=>H4 y (by rw[←sp.xP];exact List.mem_append_left _ hy)) x hx
  ·exact gK n _ _ t sp.os (by have:=sp.ol;omega) (fun y hy=>H4 y (by rw[←sp.xP];exact List.mem_append_right _ hy)) x hx
theorem oA:∀ (n base:Nat) (l:List En),qA l→l.length≤n→l≠[]→1≤(bw n base l).length∧(bw n base l).length+1≤2*l.length
 |n,base,[],_,_,h=>absurd rfl h
 |0,base,e::r,_,h,_=>by simp at h
 |n+1,base,e::r,hs,hn,_=>by
  have sp:=fA hs
  simp only[List.length_cons]at hn
  have hz:=fun b=>oA n b _ sp.zs (by have:=sp.zl;omega)
  have ho:=fun b=>oA n b _ sp.os (by have:=sp.ol;omega)
  simp only[bw,List.length_cons,List.length_append]
  generalize hZ:ox (aI e r) (aC e r)=Z at*
  generalize hO:sL (aI e r) (aC e r)=O at*
  have kV:=congrArg List.length sp.xP
  rw[List.length_append]at kV
  have J6:(aC e r).length≤r.length+1∧(e.k=aI e r→(aC e r).length=r.length):=by
   unfold aC
   refine⟨by split<;>simp,fun h=>by rw[if_pos (show e.k=dX e.k (r.getLastD e).k from h)]⟩
  refine⟨by omega, ?_⟩
  by_cases qo:Z=[]
  ·by_cases ho0:O=[]
   ·subst qo ho0
    simp only[cD,List.length_nil]
    omega
   ·have h2:=ho (base+1+(bw n (base+1) Z).length) ho0
    have he:e.k=aI e r:=Classical.byContradiction fun hc=>(sp.two hc).1 qo
    have:=J6.2 he
    subst qo
    simp only[cD,List.length_nil]at*
    omega
  ·have h1:=hz (base+1) qo
   by_cases ho0:O=[]
   ·have he:e.k=aI e r:=Classical.byContradiction fun hc=>(sp.two hc).2 ho0
    have:=J6.2 he
    subst ho0
    simp only[cD,List.length_nil]at*
    omega
   ·have h2:=ho (base+1+(bw n (base+1) Z).length) ho0
    omega
def child (x:Nd) (b:Bool):Int:=if b then x.c1 else x.c0
def C7 (G:List Nd) (base:Nat) (i:Nat):Prop:=∀ x,G[i]? =some x→(x.v=[]→0≤x.c0∧0≤x.c1)∧
 ∀ b,child x b= -1∨∃ j y,child x b=((base+j:Nat):Int)∧i<j∧G[j]? =some y∧x.k++[b]<+:y.k
theorem mg {n base:Nat} {l:List En} (hn:l.length≤n) (h:l≠[]):∃ y,(bw n base l)[0]? =some y:=by
 cases l with
 |nil=>exact absurd rfl h
 |cons e r=>
  cases n with
  |zero=>simp at hn
  |succ n=>exact⟨_,rfl⟩
theorem mi:∀ (n base:Nat) (l:List En),qA l→l.length≤n→(∀ e,e∈l→e.v≠[])→∀ i,C7 (bw n base l) base i
 |n,base,[],_,_,_,i=>by intro x hx;rw[cD]at hx;simp at hx
 |0,base,e::r,_,h,_,i=>by simp at h
 |n+1,base,e::r,hs,hn,hv,i=>by
  have sp:=fA hs
  simp only[List.length_cons]at hn
  have Fp:∀ x,x∈aC e r→x.v≠[]:=fun x hx=>hv x (dT hx)
  have hz:=fun b=>mi n b _ sp.zs (by have:=sp.zl;omega) (fun x hx=>Fp x (by rw[←sp.xP];exact List.mem_append_left _ hx))
  have ho:=fun b=>mi n b _ sp.os (by have:=sp.ol;omega) (fun x hx=>Fp x (by rw[←sp.xP];exact List.mem_append_right _ hx))
  have pz:=fun b=>gK n b _ _ sp.zs (by have:=sp.zl;omega) sp.zp
  have po:=fun b=>gK n b _ _ sp.os (by have:=sp.ol;omega) sp.op
  have gz:=fun b=> @mg n b (ox (aI e r) (aC e r)) (by have:=sp.zl;omega)
  have go:=fun b=> @mg n b (sL (aI e r) (aC e r)) (by have:=sp.ol;omega)
  have two:=sp.two
  intro x hx
  simp only[bw]at hx⊢
  generalize hZ:ox (aI e r) (aC e r)=Z at*
  generalize hO:sL (aI e r) (aC e r)=O at*
  generalize C8:bw n (base+1) Z=GZ at*
  have gz:=gz (base+1);have pz:=pz (base+1);have hz:=hz (base+1)
  rw[C8]at gz pz hz
  have go:=go (base+1+GZ.length);have po:=po (base+1+GZ.length);have ho:=ho (base+1+GZ.length)
  generalize G7:bw n (base+1+GZ.length) O=GO at*
  cases i with
  |zero=>
   simp only[List.getElem?_cons_zero,Option.some.injEq]at hx
   subst hx
   dsimp only
   constructor
   ·intro hv0
    have hne:e.k≠aI e r:=fun he=>by rw[if_pos he]at hv0;exact hv e (List.mem_cons_self ..) hv0
    have:=two hne
    unfold ix
    rw[if_neg (by simpa using this.1),if_neg (by simpa using this.2)]
    omega
   ·intro b
    cases b
    ·show ix Z (base+1)= -1∨_
     unfold ix
     by_cases Fq:Z=[]
     ·left;simp[Fq]
     ·right
      obtain⟨y,hy⟩:=gz Fq
      have H5:y∈GZ:=List.mem_of_getElem? hy
      refine⟨1,y, ?_,by omega, ?_,pz y H5⟩
      ·show ix Z (base+1)=_
       unfold ix
       rw[if_neg (by simpa using Fq)]
      ·have hlt:0<GZ.length:=List.length_pos_of_mem H5
       rw[List.getElem?_cons_succ,List.getElem?_append_left hlt]
       exact hy
    ·show ix O (base+1+GZ.length)= -1∨_
     unfold ix
     by_cases Fr:O=[]
     ·left;simp[Fr]
     ·right
      obtain⟨y,hy⟩:=go Fr
      refine⟨1+GZ.length,y, ?_,by omega, ?_,po y (List.mem_of_getElem? hy)⟩
      ·show ix O (base+1+GZ.length)=_
       unfold ix
       rw[if_neg (by simpa using Fr)]
       omega
      ·rw[show 1+GZ.length=GZ.length+1 by omega,List.getElem?_cons_succ,List.getElem?_append_right (Nat.le_refl _),Nat.sub_self]
       exact hy
  |succ i=>
   rw[List.getElem?_cons_succ]at hx
   by_cases hi:i<GZ.length
   ·rw[List.getElem?_append_left hi]at hx
    obtain⟨h1,h2⟩:=hz i x hx
    refine⟨h1,fun b=>(h2 b).imp id fun ⟨j,y,e1,e2,e3,e4⟩=>⟨j+1,y,by rw[e1];omega,by omega, ?_,e4⟩⟩
    have:j<GZ.length:=(List.getElem?_eq_some_iff.1 e3).1
    rw[List.getElem?_cons_succ,List.getElem?_append_left this]
    exact e3
   ·rw[List.getElem?_append_right (by omega)]at hx
    obtain⟨h1,h2⟩:=ho (i - GZ.length) x hx
    refine⟨h1,fun b=>(h2 b).imp id fun ⟨j,y,e1,e2,e3,e4⟩=>⟨j+GZ.length+1,y,by rw[e1];omega,by omega, ?_,e4⟩⟩
    rw[List.getElem?_cons_succ,List.getElem?_append_right (by omega),Nat.add_sub_cancel]
    exact e3
end Go.Proofs.Ytkfnkiejikhglaa.GD.Trie
namespace Go.Proofs.Ytkfnkiejikhglaa.GD.Trie
def pre (t k:Bs):Bool:=t.isPrefixOf k
theorem dH {t k:Bs}:pre t k=true↔t<+:k:=List.isPrefixOf_iff_prefix
def walk (G:List Nd) (p:Bs):Nat→Int→List Nd
 |0,_=>[]
 |n+1,i=>if i<0 then []else match G[i.toNat]? with
  |none=>[]
  |some x=>if pre x.k p=true then x::(if p.length≤x.k.length then []else walk G p n (child x (aM p x.k.length)))else []
theorem iL {G:List Nd} {p:Bs} (n:Nat) {i:Int} (h:i<0):walk G p n i=[]:=by
 cases n
 ·rfl
 ·simp[walk,h]
def Fs (G:List Nd):Prop:=∀ (i:Nat) (x:Nd),G[i]? =some x→∀ b,child x b= -1∨(i:Int)<child x b
theorem tZ {G:List Nd} (hG:Fs G) (p:Bs):∀ (n m i:Nat),G.length - i≤n→G.length - i≤m→walk G p n i=walk G p m i
 |0,0,i,_,_=>rfl
 |0,m+1,i,h,_=>by
  have:G[((i:Nat):Int).toNat]? =none:=List.getElem?_eq_none (by omega)
  simp only[walk,this];split<;>rfl
 |n+1,0,i,_,h=>by
  have:G[((i:Nat):Int).toNat]? =none:=List.getElem?_eq_none (by omega)
  simp only[walk,this];split<;>rfl
 |n+1,m+1,i,h1,h2=>by
  simp only[walk,Int.toNat_natCast]
  rw[if_neg (by omega),if_neg (by omega)]
  cases hx:G[i]? with
  |none=>rfl
  |some x=>
   dsimp only
   have hi:i<G.length:=(List.getElem?_eq_some_iff.1 hx).1
   have hr:walk G p n (child x (aM p x.k.length))=walk G p m (child x (aM p x.k.length)):=by
    rcases hG i x hx (aM p x.k.length)with h |h
    ·rw[iL n (by omega),iL m (by omega)]
    ·have e:child x (aM p x.k.length)=(((child x (aM p x.k.length)).toNat:Nat):Int):=by omega
     rw[e]
     exact tZ hG p n m _ (by omega) (by omega)
   rw[hr]
theorem sS {t s p:Bs} (h:t<+:s):pre t p=false→pre s p=false:=by
 intro h1
 cases h2:pre s p
 ·rfl
 ·rw[dH.2 (h.trans (dH.1 h2))]at h1;cases h1
theorem jn {α:Type} {f:α→Bool} {l:List α} (h:∀ x,x∈l→f x=false):l.filter f=[]:=by
 rw[List.filter_eq_nil_iff]
 intro x hx;simp[h x hx]
theorem se (G:List Nd) (p:Bs):∀ (n m base:Nat) (l:List En),qA l→l.length≤n→l.length≤m→(∀ e,e∈l→e.v≠[])→
  (∀ i x,(bw n base l)[i]? =some x→G[base+i]? =some x)→own (walk G p m (ix l base))=l.filter fun e=>pre e.k p
 |n,m,base,[],_,_,_,_,_=>by rw[iL m (by simp[ix])];rfl
 |0,m,base,e::r,_,h,_,_,_=>by simp at h
 |n+1,0,base,e::r,_,_,h,_,_=>by simp at h
 |n+1,m+1,base,e::r,hs,hn,hm,hv,hG=>by
  have sp:=fA hs
  simp only[List.length_cons]at hn hm
  have Fp:∀ x,x∈aC e r→x.v≠[]:=fun x hx=>hv x (dT hx)
  have hz:=fun b=>se G p n m b _ sp.zs (by have:=sp.zl;omega) (by have:=sp.zl;omega) (fun x hx=>Fp x (by rw[←sp.xP];exact List.mem_append_left _ hx))
  have ho:=fun b=>se G p n m b _ sp.os (by have:=sp.ol;omega) (by have:=sp.ol;omega) (fun x hx=>Fp x (by rw[←sp.xP];exact List.mem_append_right _ hx))
  simp only[bw]at hG
  have kV:=sp.xP;have DH:=sp.zp;have aW:=sp.op;have sR:=sp.Le
  generalize hZ:ox (aI e r) (aC e r)=Z at*
  generalize hO:sL (aI e r) (aC e r)=O at*
  generalize C8:bw n (base+1) Z=GZ at*
  generalize G7:bw n (base+1+GZ.length) O=GO at*
  have h0:=hG 0 _ rfl
  rw[Nat.add_zero]at h0
  have Mx:=hz (base+1) (fun i x hx=>by
   rw[C8]at hx
   have hi:=(List.getElem?_eq_some_iff.1 hx).1
   have:=hG (i+1) x (by rw[List.getElem?_cons_succ,List.getElem?_append_left hi];exact hx)
   rw[show base+1+i=base+(i+1)by omega];exact this)
  have BP:=ho (base+1+GZ.length) (fun i x hx=>by
   rw[G7]at hx
   have:=hG (i+GZ.length+1) x (by rw[List.getElem?_cons_succ,List.getElem?_append_right (by omega),Nat.add_sub_cancel];exact hx)
   rw[show base+1+GZ.length+i=base+(i+GZ.length+1)by omega];exact this)
  have H6:ix (e::r) base=(base:Int):=by simp[ix]
  rw[H6]
  simp only[walk,Int.toNat_natCast]
  rw[if_neg (by omega),h0]
  dsimp only
  by_cases hp:pre (aI e r) p=true
  ·rw[if_pos hp]
   obtain⟨s,BN⟩:=dH.1 hp
   have H7:own [(⟨aI e r,if e.k=aI e r then e.v else [],ix Z (base+1),ix O (base+1+GZ.length)⟩:Nd)]++(aC e r).filter (fun e=>pre e.k p)=(e::r).filter fun e=>pre e.k p:=by
    have Gf:=hv e (List.mem_cons_self ..)
    by_cases he:e.k=aI e r
    ·have h1:aC e r=r:=by unfold aC;exact if_pos he
     rw[h1,if_pos he,List.filter_cons,he,if_pos hp,←he]
     simp[own,Gf]
    ·have h1:aC e r=e::r:=by unfold aC;exact if_neg he
     rw[h1,if_neg he]
     simp[own]
   rw[show ∀ (x:Nd) (l:List Nd),x::l=[x]++l from fun _ _=>rfl,qC,←H7]
   congr 1
   rw[←kV,List.filter_append]
   by_cases hl:p.length≤(aI e r).length
   ·rw[if_pos hl]
    have Ft:∀ (b:Bool) (L:List En),(∀ x,x∈L→aI e r++[b]<+:x.k)→L.filter (fun e=>pre e.k p)=[]:=fun b L hL=>jn fun x hx=>by
     cases hc:pre x.k p
     ·rfl
     ·have h1:=(hL x hx).length_le
      have h2:=(dH.1 hc).length_le
      simp at h1;omega
    rw[Ft false Z DH,Ft true O aW]
    rfl
   ·rw[if_neg hl]
    have Na:aI e r++[aM p (aI e r).length]<+:p:=by
     cases s with
     |nil=>rw[List.append_nil]at BN;rw[BN]at hl;omega
     |cons b s=>rw[←BN,ir];exact⟨s,by simp⟩
    have oR:∀ (b:Bool) (L:List En),(∀ x,x∈L→aI e r++[b]<+:x.k)→b≠aM p (aI e r).length→L.filter (fun e=>pre e.k p)=[]:=fun b L hL hb=>jn fun x hx=>by
     cases hc:pre x.k p
     ·rfl
     ·exact absurd (qB ((hL x hx).trans (dH.1 hc))).symm hb
    cases hb:aM p (aI e r).length
    ·show own (walk G p m (ix Z (base+1)))=_
     rw[Mx,oR true O aW (by simp[hb]),List.append_nil]
    ·show own (walk G p m (ix O (base+1+GZ.length)))=_
     rw[BP,oR false Z DH (by simp[hb]),List.nil_append]
  ·rw[if_neg hp]
   have hp':pre (aI e r) p=false:=by simpa using hp
   rw[jn (l:=e::r) fun x hx=>sS (sR x hx) hp']
   rfl
theorem w_:∀ {x y:Bs},fM x y=true→(x<+:y∧x.length<y.length)∨∃ t s u,x=t++false::s∧y=t++true::u
 |_,[],h=>by cases ‹Bs›<;>simp[fM]at h
 |[],b::y,_=> .inl ⟨List.nil_prefix,by simp⟩
 |a::x,b::y,h=>by
  have ih:= @w_ x y
  by_cases jC:a=b
  ·subst jC
   have h':fM x y=true:=by cases a<;>simpa[fM]using h
   rcases ih h' with⟨h1,h2⟩ |⟨t,s,u,rfl,rfl⟩
   ·exact .inl ⟨(List.prefix_cons_inj a).2 h1,by simpa using h2⟩
   ·exact .inr ⟨a::t,s,u,rfl,rfl⟩
  ·cases a<;>cases b<;>simp[fM]at h jC
   exact .inr ⟨[],x,y,rfl,rfl⟩
theorem vf {P:Nat→Prop}:∀ (n:Nat),P n→∃ m,m≤n∧P m∧∀ j,j<m→ ¬P j:=by
 intro n
 induction n using Nat.strongRecOn with
 |_ n ih=>
  intro h
  rcases Classical.em (∃ j,j<n∧P j)with⟨j,hj,hP⟩ |hno
  ·obtain⟨m,h1,h2,h3⟩:=ih j hj hP
   exact⟨m,by omega,h2,h3⟩
  ·exact⟨n,Nat.le_refl _,h,fun j hj hP=>hno ⟨j,hj,hP⟩⟩
theorem np {x y:Nat} (i:Nat) (h0:x.testBit i=false) (h1:y.testBit i=true) (h:∀ j,i<j→x.testBit j=y.testBit j):x<y:=by
 have e:x/2^(i+1)=y/2^(i+1):=by
  apply Nat.eq_of_testBit_eq
  intro j
  rw[←Nat.shiftRight_eq_div_pow,←Nat.shiftRight_eq_div_pow,Nat.testBit_shiftRight,Nat.testBit_shiftRight]
  exact h _ (by omega)
 rw[Nat.testBit_eq_decide_div_mod_eq]at h0 h1
 have h0: ¬x/2^i % 2=1:=by simpa using h0
 have h1:y/2^i % 2=1:=by simpa using h1
 rw[Nat.pow_succ,←Nat.div_div_eq_div_mul,←Nat.div_div_eq_div_mul]at e
 have hlt:x/2^i<y/2^i:=by omega
 rcases Nat.lt_or_ge x y with h2 |h2
 ·exact h2
 ·have:=Nat.div_le_div_right (c:=2^i) h2
  omega
end Go.Proofs.Ytkfnkiejikhglaa.GD.Trie
namespace Go.Proofs.Ytkfnkiejikhglaa.GD.Trie
theorem iM {t x:Bs} {b:Bool} (h1:t++[b]<+:x) (h2:t++[!b]<+:x):False:=by
 have e1:=qB h1
 have e2:=qB h2
 rw[e1]at e2
 cases b<;>simp at e2
theorem jR {t x:Bs} {b:Bool} (h:t++[b]<+:x) (e:x=t):False:=by
 have:=h.length_le
 rw[e,List.length_append,List.length_singleton]at this
 omega
def C9 (l:List En) (G:List Nd) (base:Nat) (i:Nat):Prop:=∀ x,G[i]? =some x→
 ((∃ e,e∈l∧e.k=x.k∧x.v=e.v)∨(x.v=[]∧∀ e,e∈l→e.k≠x.k))∧
 ∀ b,(child x b= -1∧∀ y,y∈G→ ¬x.k++[b]<+:y.k)∨∃ j y,child x b=((base+j:Nat):Int)∧i<j∧G[j]? =some y∧x.k++[b]<+:y.k∧∀ k z,k<j→G[k]? =some z→ ¬x.k++[b]<+:z.k
theorem vg:∀ (n base:Nat) (l:List En),qA l→l.length≤n→∀ i,C9 l (bw n base l) base i
 |n,base,[],_,_,i=>by intro x hx;rw[cD]at hx;simp at hx
 |0,base,e::r,_,h,i=>by simp at h
 |n+1,base,e::r,hs,hn,i=>by
  have sp:=fA hs
  simp only[List.length_cons]at hn
  have hz:=fun b=>vg n b _ sp.zs (by have:=sp.zl;omega)
  have ho:=fun b=>vg n b _ sp.os (by have:=sp.ol;omega)
  have pz:=fun b=>gK n b _ _ sp.zs (by have:=sp.zl;omega) sp.zp
  have po:=fun b=>gK n b _ _ sp.os (by have:=sp.ol;omega) sp.op
  have gz:=fun b=> @mg n b (ox (aI e r) (aC e r)) (by have:=sp.zl;omega)
  have go:=fun b=> @mg n b (sL (aI e r) (aC e r)) (by have:=sp.ol;omega)
  have kV:=sp.xP;have DH:=sp.zp;have aW:=sp.op
  intro x hx
  simp only[bw]at hx⊢
  generalize hZ:ox (aI e r) (aC e r)=Z at*
  generalize hO:sL (aI e r) (aC e r)=O at*
  generalize C8:bw n (base+1) Z=GZ at*
  have gz:=gz (base+1);have pz:=pz (base+1);have hz:=hz (base+1)
  rw[C8]at gz pz hz
  have go:=go (base+1+GZ.length);have po:=po (base+1+GZ.length);have ho:=ho (base+1+GZ.length)
  generalize G7:bw n (base+1+GZ.length) O=GO at*
  have ju:∀ y,y∈e::r→(y=e∧e.k=aI e r)∨y∈Z∨y∈O:=fun y hy=>by
   by_cases he:e.k=aI e r
   ·have h1:aC e r=r:=by unfold aC;exact if_pos he
    rcases List.mem_cons.1 hy with rfl |hy
    ·exact .inl ⟨rfl,he⟩
    ·rw[←h1,←kV]at hy
     exact .inr (List.mem_append.1 hy)
   ·have h1:aC e r=e::r:=by unfold aC;exact if_neg he
    rw[←h1,←kV]at hy
    exact .inr (List.mem_append.1 hy)
  have hsub:∀ y,y∈Z∨y∈O→y∈e::r:=fun y hy=>dT (by rw[←kV];exact List.mem_append.2 hy)
  have Lf:∀ y:Nd,y∈GZ→∀ (k:Bs) (b:Bool),aI e r++[true]<+:k→ ¬k++[b]<+:y.k:=fun y hy k b hk hc=>iM (b:=false) (pz y hy) ((hk.trans (List.prefix_append ..)).trans hc)
  have My:∀ y:Nd,y∈GO→∀ (k:Bs) (b:Bool),aI e r++[false]<+:k→ ¬k++[b]<+:y.k:=fun y hy k b hk hc=>iM (b:=true) (po y hy) ((hk.trans (List.prefix_append ..)).trans hc)
  have IW:∀ (k:Bs) (b c:Bool),aI e r++[c]<+:k→ ¬k++[b]<+:aI e r:=fun k b c hk hc=>by
   have h1:=hk.length_le;have h2:=hc.length_le
   simp at h1 h2;omega
  have El:∀ b:Bool,¬aI e r++[b]<+:aI e r:=fun b hc=>jR hc rfl
  cases i with
  |zero=>
   simp only[List.getElem?_cons_zero,Option.some.injEq]at hx
   subst hx
   dsimp only
   constructor
   ·by_cases he:e.k=aI e r
    ·exact .inl ⟨e,List.mem_cons_self ..,he,if_pos he⟩
    ·refine .inr ⟨if_neg he,fun y hy hc=> ?_⟩
     rcases ju y hy with⟨_,h⟩ |h |h
     ·exact he h
     ·exact jR (DH y h) hc
     ·exact jR (aW y h) hc
   ·intro b
    cases b
    ·by_cases Fq:Z=[]
     ·left
      refine⟨by show ix Z (base+1)= -1;simp[ix,Fq],fun y hy hc=> ?_⟩
      rcases List.mem_cons.1 hy with rfl |hy
      ·exact El _ hc
      rcases List.mem_append.1 hy with hy |hy
      ·rw[Fq]at C8;rw[cD]at C8;rw[←C8]at hy;cases hy
      ·exact iM (b:=true) (po y hy) hc
     ·right
      obtain⟨y,hy⟩:=gz Fq
      have H5:y∈GZ:=List.mem_of_getElem? hy
      refine⟨1,y, ?_,by omega, ?_,pz y H5,fun k z hk qo hc=> ?_⟩
      ·show ix Z (base+1)=_
       unfold ix
       rw[if_neg (by simpa using Fq)]
      ·have hlt:0<GZ.length:=List.length_pos_of_mem H5
       rw[List.getElem?_cons_succ,List.getElem?_append_left hlt]
       exact hy
      ·have:k=0:=by omega
       subst this
       simp only[List.getElem?_cons_zero,Option.some.injEq]at qo
       subst qo
       exact El _ hc
    ·by_cases Fr:O=[]
     ·left
      refine⟨by show ix O (base+1+GZ.length)= -1;simp[ix,Fr],fun y hy hc=> ?_⟩
      rcases List.mem_cons.1 hy with rfl |hy
      ·exact El _ hc
      rcases List.mem_append.1 hy with hy |hy
      ·exact iM (b:=false) (pz y hy) hc
      ·rw[Fr]at G7;rw[cD]at G7;rw[←G7]at hy;cases hy
     ·right
      obtain⟨y,hy⟩:=go Fr
      refine⟨1+GZ.length,y, ?_,by omega, ?_,po y (List.mem_of_getElem? hy),fun k z hk qo hc=> ?_⟩
      ·show ix O (base+1+GZ.length)=_
       unfold ix
       rw[if_neg (by simpa using Fr)]
       omega
      ·rw[show 1+GZ.length=GZ.length+1 by omega,List.getElem?_cons_succ,List.getElem?_append_right (Nat.le_refl _),Nat.sub_self]
       exact hy
      ·cases k with
       |zero=>
        simp only[List.getElem?_cons_zero,Option.some.injEq]at qo
        subst qo
        exact El _ hc
       |succ k=>
        rw[List.getElem?_cons_succ,List.getElem?_append_left (by omega)]at qo
        exact iM (b:=false) (pz z (List.mem_of_getElem? qo)) hc
  |succ i=>
   rw[List.getElem?_cons_succ]at hx
   by_cases hi:i<GZ.length
   ·rw[List.getElem?_append_left hi]at hx
    obtain⟨h1,h2⟩:=hz i x hx
    have vh:=pz x (List.mem_of_getElem? hx)
    refine⟨?_,fun b=> ?_⟩
    ·rcases h1 with⟨y,a1,a2,a3⟩ |⟨a1,a2⟩
     ·exact .inl ⟨y,hsub y (.inl a1),a2,a3⟩
     ·refine .inr ⟨a1,fun y hy hc=> ?_⟩
      rcases ju y hy with⟨rfl,h⟩ |h |h
      ·exact jR vh (by rw[←hc,h])
      ·exact a2 y h hc
      ·exact iM (b:=true) (aW y h) (by rw[hc];exact vh)
    ·rcases h2 b with⟨c1,c2⟩ |⟨j,y,e1,e2,e3,e4,e5⟩
     ·left
      refine⟨c1,fun y hy hc=> ?_⟩
      rcases List.mem_cons.1 hy with rfl |hy
      ·exact IW _ _ _ vh hc
      rcases List.mem_append.1 hy with hy |hy
      ·exact c2 y hy hc
      ·exact My y hy _ _ vh hc
     ·right
      have hj:j<GZ.length:=(List.getElem?_eq_some_iff.1 e3).1
      refine⟨j+1,y,by rw[e1];omega,by omega, ?_,e4,fun k z hk qo hc=> ?_⟩
      ·rw[List.getElem?_cons_succ,List.getElem?_append_left hj]
       exact e3
      ·cases k with
       |zero=>
        simp only[List.getElem?_cons_zero,Option.some.injEq]at qo
        subst qo
        exact IW _ _ _ vh hc
       |succ k=>
        rw[List.getElem?_cons_succ,List.getElem?_append_left (by omega)]at qo
        exact e5 k z (by omega) qo hc
   ·rw[List.getElem?_append_right (by omega)]at hx
    obtain⟨h1,h2⟩:=ho (i - GZ.length) x hx
    have vh:=po x (List.mem_of_getElem? hx)
    refine⟨?_,fun b=> ?_⟩
    ·rcases h1 with⟨y,a1,a2,a3⟩ |⟨a1,a2⟩
     ·exact .inl ⟨y,hsub y (.inr a1),a2,a3⟩
     ·refine .inr ⟨a1,fun y hy hc=> ?_⟩
      rcases ju y hy with⟨rfl,h⟩ |h |h
      ·exact jR vh (by rw[←hc,h])
      ·exact iM (b:=false) (DH y h) (by rw[hc];exact vh)
      ·exact a2 y h hc
    ·rcases h2 b with⟨c1,c2⟩ |⟨j,y,e1,e2,e3,e4,e5⟩
     ·left
      refine⟨c1,fun y hy hc=> ?_⟩
      rcases List.mem_cons.1 hy with rfl |hy
      ·exact IW _ _ _ vh hc
      rcases List.mem_append.1 hy with hy |hy
      ·exact Lf y hy _ _ vh hc
      ·exact c2 y hy hc
     ·right
      refine⟨j+GZ.length+1,y,by rw[e1];omega,by omega, ?_,e4,fun k z hk qo hc=> ?_⟩
      ·rw[List.getElem?_cons_succ,List.getElem?_append_right (by omega),Nat.add_sub_cancel]
       exact e3
      ·cases k with
       |zero=>
        simp only[List.getElem?_cons_zero,Option.some.injEq]at qo
        subst qo
        exact IW _ _ _ vh hc
       |succ k=>
        rw[List.getElem?_cons_succ]at qo
        by_cases Mz:k<GZ.length
        ·rw[List.getElem?_append_left Mz]at qo
         exact Lf z (List.mem_of_getElem? qo) _ _ vh hc
        ·rw[List.getElem?_append_right (by omega)]at qo
         exact e5 (k - GZ.length) z (by omega) qo hc
theorem mj:∀ (n base:Nat) (l:List En),qA l→l.length≤n→((bw n base l).Pairwise fun a b=>fM a.k b.k=true)∧∀ k,(∃ x,x∈bw n base l∧x.k=k)↔∃ a b,a∈l∧b∈l∧k=dX a.k b.k
 |n,base,[],_,_=>by rw[cD];exact⟨List.Pairwise.nil,fun k=>⟨fun ⟨x,h,_⟩=>(by cases h),fun ⟨a,b,h,_⟩=>(by cases h)⟩⟩
 |0,base,e::r,_,h=>by simp at h
 |n+1,base,e::r,hs,hn=>by
  have sp:=fA hs
  simp only[List.length_cons]at hn
  have hz:=fun b=>mj n b _ sp.zs (by have:=sp.zl;omega)
  have ho:=fun b=>mj n b _ sp.os (by have:=sp.ol;omega)
  have pz:=fun b=>gK n b _ _ sp.zs (by have:=sp.zl;omega) sp.zp
  have po:=fun b=>gK n b _ _ sp.os (by have:=sp.ol;omega) sp.op
  have kV:=sp.xP;have DH:=sp.zp;have aW:=sp.op;have sR:=sp.Le
  simp only[bw]
  generalize hZ:ox (aI e r) (aC e r)=Z at*
  generalize hO:sL (aI e r) (aC e r)=O at*
  generalize C8:bw n (base+1) Z=GZ at*
  have hz:=hz (base+1);have pz:=pz (base+1)
  rw[C8]at hz pz
  have ho:=ho (base+1+GZ.length);have po:=po (base+1+GZ.length)
  generalize bw n (base+1+GZ.length) O=GO at*
  have C_:∀ (k:Bs) (b:Bool),aI e r++[b]<+:k→fM (aI e r) k=true:=fun k b h=>zZ ((List.prefix_append ..).trans h) (fun hc=>jR h hc.symm)
  have H8:∀ a b:Bs,aI e r++[false]<+:a→aI e r++[true]<+:b→fM a b=true:=fun a b h1 h2=>by
   obtain⟨s,rfl⟩:=h1;obtain⟨u,rfl⟩:=h2
   rw[List.append_assoc,List.append_assoc,qz]
   rfl
  have Da:∀ a b:Bs,aI e r++[false]<+:a→aI e r++[true]<+:b→dX a b=aI e r:=fun a b h1 h2=>by
   obtain⟨s,rfl⟩:=h1;obtain⟨u,rfl⟩:=h2
   rw[List.append_assoc,List.append_assoc,ou]
   simp[dX]
  refine⟨?_,fun k=>⟨?_, ?_⟩⟩
  ·rw[List.pairwise_cons,List.pairwise_append]
   refine⟨fun y hy=> ?_,hz.1,ho.1,fun a ha b hb=>H8 _ _ (pz a ha) (po b hb)⟩
   rcases List.mem_append.1 hy with hy |hy
   ·exact C_ _ _ (pz y hy)
   ·exact C_ _ _ (po y hy)
  ·rintro⟨x,hx,rfl⟩
   have sub:∀ y,y∈Z∨y∈O→y∈e::r:=fun y hy=>dT (by rw[←kV];exact List.mem_append.2 hy)
   rcases List.mem_cons.1 hx with rfl |hx
   ·exact⟨e,r.getLastD e,List.mem_cons_self ..,lN e r,rfl⟩
   rcases List.mem_append.1 hx with hx |hx
   ·obtain⟨a,b,ha,hb,he⟩:=(hz.2 x.k).1 ⟨x,hx,rfl⟩
    exact⟨a,b,sub a (.inl ha),sub b (.inl hb),he⟩
   ·obtain⟨a,b,ha,hb,he⟩:=(ho.2 x.k).1 ⟨x,hx,rfl⟩
    exact⟨a,b,sub a (.inr ha),sub b (.inr hb),he⟩
  ·rintro⟨a,b,ha,hb,rfl⟩
   have yW:∀ y,y∈e::r→y.k=aI e r∨y∈Z∨y∈O:=fun y hy=>by
    by_cases he:e.k=aI e r
    ·have h1:aC e r=r:=by unfold aC;exact if_pos he
     rcases List.mem_cons.1 hy with rfl |hy
     ·exact .inl he
     ·rw[←h1,←kV]at hy
      exact .inr (List.mem_append.1 hy)
    ·have h1:aC e r=e::r:=by unfold aC;exact if_neg he
     rw[←h1,←kV]at hy
     exact .inr (List.mem_append.1 hy)
   have xb:dX a.k b.k=aI e r→∃ x,x∈(⟨aI e r,if e.k=aI e r then e.v else [],ix Z (base+1),ix O (base+1+GZ.length)⟩::(GZ++GO):List Nd)∧x.k=dX a.k b.k:=fun h=>⟨_,List.mem_cons_self ..,h.symm⟩
   have vk:∀ x y:Bs,x=aI e r→aI e r<+:y→dX x y=aI e r:=fun x y h1 h2=>by
    subst h1
    obtain⟨s,rfl⟩:=h2
    have:=ou (aI e r) [] s
    rw[List.append_nil]at this
    rw[this]
    cases s<;>simp[dX]
   rcases yW a ha with h1 |h1 |h1
   ·exact xb (vk _ _ h1 (sR b hb))
   ·rcases yW b hb with h2 |h2 |h2
    ·exact xb (by rw[lM];exact vk _ _ h2 (sR a ha))
    ·obtain⟨x,hx,he⟩:=(hz.2 (dX a.k b.k)).2 ⟨a,b,h1,h2,rfl⟩
     exact⟨x,List.mem_cons_of_mem _ (List.mem_append_left _ hx),he⟩
    ·exact xb (Da _ _ (DH a h1) (aW b h2))
   ·rcases yW b hb with h2 |h2 |h2
    ·exact xb (by rw[lM];exact vk _ _ h2 (sR a ha))
    ·exact xb (by rw[lM];exact Da _ _ (DH b h2) (aW a h1))
    ·obtain⟨x,hx,he⟩:=(ho.2 (dX a.k b.k)).2 ⟨a,b,h1,h2,rfl⟩
     exact⟨x,List.mem_cons_of_mem _ (List.mem_append_right _ hx),he⟩
def bK (p:Bs):List Bs→List Bs
 |[]=>[p]
 |x::l=>if p=x then x::l else if fM p x=true then p::x::l else x::bK p l
theorem iN (p:Bs):∀ (l:List Bs) (x:Bs),x∈bK p l↔x=p∨x∈l
 |[],x=>by simp[bK]
 |y::l,x=>by
  unfold bK
  split
  ·rename_i h;subst h
   simp
  ·split
   ·simp
   ·rw[List.mem_cons,iN p l x,List.mem_cons]
    constructor
    ·rintro (h |h |h)
     ·exact .inr (.inl h)
     ·exact .inl h
     ·exact .inr (.inr h)
    ·rintro (h |h |h)
     ·exact .inr (.inl h)
     ·exact .inl h
     ·exact .inr (.inr h)
abbrev kW (l:List Bs):Prop:=l.Pairwise fun a b=>fM a b=true
theorem iO (p:Bs):∀ (l:List Bs),kW l→kW (bK p l)
 |[],_=>List.pairwise_singleton ..
 |y::l,h=>by
  obtain⟨h1,h2⟩:=List.pairwise_cons.1 h
  unfold bK
  split
  ·exact h
  ·rename_i hne
   split
   ·rename_i hlt
    refine List.pairwise_cons.2 ⟨fun z hz=> ?_,h⟩
    rcases List.mem_cons.1 hz with rfl |hz
    ·exact hlt
    ·exact jQ hlt (h1 z hz)
   ·rename_i hlt
    refine List.pairwise_cons.2 ⟨fun z hz=> ?_,iO p l h2⟩
    rcases (iN p l z).1 hz with rfl |hz
    ·rcases ow z y with h |h |h
     ·exact absurd h hlt
     ·exact absurd h hne
     ·exact h
    ·exact h1 z hz
theorem z5:∀ {a b:List Bs},kW a→kW b→(∀ x,x∈a↔x∈b)→a=b
 |[],[],_,_,_=>rfl
 |[],y::b,_,_,h=>by have:=(h y).2 (List.mem_cons_self ..);cases this
 |x::a,[],_,_,h=>by have:=(h x).1 (List.mem_cons_self ..);cases this
 |x::a,y::b,ha,hb,h=>by
  obtain⟨a1,a2⟩:=List.pairwise_cons.1 ha
  obtain⟨b1,b2⟩:=List.pairwise_cons.1 hb
  have HI:x=y:=by
   rcases List.mem_cons.1 ((h x).1 (List.mem_cons_self ..))with h1 |h1
   ·exact h1
   rcases List.mem_cons.1 ((h y).2 (List.mem_cons_self ..))with h2 |h2
   ·exact h2.symm
   have:=tY (b1 x h1)
   rw[a1 y h2]at this;cases this
  subst HI
  congr 1
  refine z5 a2 b2 fun z=>⟨fun hz=> ?_,fun hz=> ?_⟩
  ·rcases List.mem_cons.1 ((h z).1 (List.mem_cons_of_mem _ hz))with rfl |h1
   ·have:=a1 z hz;rw[dS]at this;cases this
   ·exact h1
  ·rcases List.mem_cons.1 ((h z).2 (List.mem_cons_of_mem _ hz))with rfl |h1
   ·have:=b1 z hz;rw[dS]at this;cases this
   ·exact h1
def dU (p:Bs):List Bs→List Bs→List Bs
 |[],qp=>qp
 |q::ps,qp=>dU p ps (bK (dX p q) qp)
def fB:List Bs→List Bs→List Bs→List Bs
 |[],_,qp=>qp
 |p::ps,bs,qp=>fB ps (bs++[p]) (dU p bs (bK p qp))
theorem pY (p:Bs):∀ (ps qp:List Bs),kW qp→kW (dU p ps qp)∧∀ x,x∈dU p ps qp↔x∈qp∨∃ q,q∈ps∧x=dX p q
 |[],qp,h=>⟨h,fun x=>by simp[dU]⟩
 |q::ps,qp,h=>by
  obtain⟨h1,h2⟩:=pY p ps (bK (dX p q) qp) (iO _ _ h)
  refine⟨h1,fun x=> ?_⟩
  show x∈dU p ps (bK (dX p q) qp)↔_
  rw[h2 x,iN]
  constructor
  ·rintro ((h |h) |⟨z,hz,h⟩)
   ·exact .inr ⟨q,List.mem_cons_self ..,h⟩
   ·exact .inl h
   ·exact .inr ⟨z,List.mem_cons_of_mem _ hz,h⟩
  ·rintro (h |⟨z,hz,h⟩)
   ·exact .inl (.inr h)
   ·rcases List.mem_cons.1 hz with rfl |hz
    ·exact .inl (.inl h)
    ·exact .inr ⟨z,hz,h⟩
theorem xc:∀ (ps bs qp:List Bs),kW qp→(∀ x,x∈qp↔∃ a b,a∈bs∧b∈bs∧x=dX a b)→kW (fB ps bs qp)∧∀ x,x∈fB ps bs qp↔∃ a b,a∈bs++ps∧b∈bs++ps∧x=dX a b
 |[],bs,qp,h,hm=>by rw[List.append_nil];exact⟨h,hm⟩
 |p::ps,bs,qp,h,hm=>by
  obtain⟨h1,h2⟩:=pY p bs (bK p qp) (iO _ _ h)
  have:=xc ps (bs++[p]) (dU p bs (bK p qp)) h1 (fun x=>by
   rw[h2 x,iN,hm x]
   constructor
   ·rintro ((h |⟨a,b,ha,hb,h⟩) |⟨q,hq,h⟩)
    ·exact⟨p,p,by simp,by simp,by rw[ot];exact h⟩
    ·exact⟨a,b,List.mem_append_left _ ha,List.mem_append_left _ hb,h⟩
    ·exact⟨p,q,by simp,List.mem_append_left _ hq,h⟩
   ·rintro⟨a,b,ha,hb,h⟩
    simp only[List.mem_append,List.mem_singleton]at ha hb
    rcases ha with ha |rfl
    ·rcases hb with hb |rfl
     ·exact .inl (.inr ⟨a,b,ha,hb,h⟩)
     ·exact .inr ⟨a,ha,by rw[lM];exact h⟩
    ·rcases hb with hb |rfl
     ·exact .inr ⟨b,hb,h⟩
     ·exact .inl (.inl (by rw[ot]at h;exact h)))
  rw[List.append_assoc,List.singleton_append]at this
  exact this
theorem Bt {l:List En} {ks:List Bs} (hs:qA l) (hk:∀ k,k∈ks↔∃ e,e∈l∧e.k=k):fB ks [] []=(jB l).map Nd.k:=by
 obtain⟨h1,h2⟩:=xc ks [] [] List.Pairwise.nil (fun x=>by simp)
 obtain⟨g1,g2⟩:=mj l.length 0 l hs (Nat.le_refl _)
 refine z5 h1 (by rw[kW,List.pairwise_map];exact g1) fun x=> ?_
 rw[h2 x,List.nil_append,List.mem_map]
 rw[show (∃ a,a∈jB l∧a.k=x)↔_ from g2 x]
 constructor
 ·rintro⟨a,b,ha,hb,rfl⟩
  obtain⟨e,he,rfl⟩:=(hk a).1 ha
  obtain⟨e',he',rfl⟩:=(hk b).1 hb
  exact⟨e,e',he,he',rfl⟩
 ·rintro⟨a,b,ha,hb,rfl⟩
  exact⟨a.k,b.k,(hk _).2 ⟨a,ha,rfl⟩,(hk _).2 ⟨b,hb,rfl⟩,rfl⟩
end Go.Proofs.Ytkfnkiejikhglaa.GD.Trie
namespace Go.Proofs.Ytkfnkiejikhglaa.Own
open Go Go.Proofs.Ytkfnkiejikhglaa.GD Go.Proofs.Ytkfnkiejikhglaa.GD.Trie
structure Pf where
 f:Int
 h:Nat
 l:Nat
 n:Nat
deriving Inhabited
abbrev Pf.d (p:Pf):D:=P4 p.f p.h p.l p.n
structure Pf.ok (p:Pf):Prop where
 r:dR p.h p.l
 c:cy p.f p.h p.l p.n=0
theorem Pf.ok.all {p:Pf} (h:p.ok):ac p.f≠0∧bZ p.f p.h p.l=true∧p.n≤ac p.f∧gH p.f p.h p.l (ac p.f - p.n)=(p.h,p.l):=by
 have:=h.c
 unfold cy at this
 split at this
 ·cases this
 ·rename_i hw
  split at this
  ·rename_i hc
   exact⟨hw,hc.1,by have:=hc.2.2.1;omega,by simpa using hc.2.2.2⟩
  ·cases this
theorem Pf.ok.DI {p:Pf} (h:p.ok):(p.f=4∧ac p.f=32)∨(p.f=6∧ac p.f=128):=by
 rcases bT p.f with h1 |h1
 ·exact absurd h1 h.all.1
 ·exact h1
def Pf.b (p:Pf) (i:Nat):Bool:=bN p.h p.l (ac p.f - 1 - i)
def Pf.bits (p:Pf):Bs:=(List.range p.n).map p.b
theorem Pf.ok.low {p:Pf} (h:p.ok) {k:Nat} (hk:k<ac p.f - p.n):bN p.h p.l k=false:=(yU h.r).1 h.all.2.2.2 k hk
theorem Pf.ok.IX {p:Pf} (h:p.ok) {i:Nat} (h1:p.n≤i) (h2:i<ac p.f):p.b i=false:=by
 unfold Pf.b
 exact h.low (by omega)
theorem Pf.len (p:Pf):p.bits.length=p.n:=by simp[Pf.bits]
theorem Pf.get (p:Pf) {i:Nat} (h:i<p.n):p.bits[i]? =some (p.b i):=by simp[Pf.bits,h]
theorem Pf.aM (p:Pf) {i:Nat} (h:i<p.n):aM p.bits i=p.b i:=by simp[Trie.aM,zq1,p.get h]
theorem Pf.ok.aM {p:Pf} (hp:p.ok) {i:Nat} (h:i<ac p.f):Trie.aM p.bits i=p.b i:=by
 by_cases hi:i<p.n
 ·exact p.aM hi
 ·rw[hp.IX (by omega) h]
  simp[Trie.aM,zq1,Pf.bits,hi]
theorem bW {x:Nat} (h:x<18446744073709551616) {k:Nat} (hk:64≤k):x.testBit k=false:=
 Nat.testBit_lt_two_pow (Nat.lt_of_lt_of_le h (by have:(2:Nat)^64≤2^k:=Nat.pow_le_pow_right (by omega) hk;simpa using this))
theorem pZ {h l:Nat} (ha:bZ 4 h l=true):h=0∧l<4294967296:=by
 unfold bZ at ha
 simpa using ha
theorem f8 {x:Nat} (h:x<4294967296) {k:Nat} (hk:32≤k):x.testBit k=false:=
 Nat.testBit_lt_two_pow (Nat.lt_of_lt_of_le h (by have:(2:Nat)^32≤2^k:=Nat.pow_le_pow_right (by omega) hk;simpa using this))
theorem vm {f:Int} {h l h' l':Nat} (r:dR h l) (r':dR h' l') (hw:ac f≠0) (a:bZ f h l=true) (a':bZ f h' l'=true) (he:∀ k,k<ac f→bN h l k=bN h' l' k):h=h'∧l=l':=by
 have hl:l=l':=by
  apply Nat.eq_of_testBit_eq
  intro k
  rcases bT f with h1 |⟨rfl,h1⟩ |⟨rfl,h1⟩
  ·exact absurd h1 hw
  ·by_cases hk:k<32
   ·have:=he k (by omega)
    unfold bN at this
    rwa [if_neg (by omega),if_neg (by omega)]at this
   ·rw[f8 (pZ a).2 (by omega),f8 (pZ a').2 (by omega)]
  ·by_cases hk:k<64
   ·have:=he k (by omega)
    unfold bN at this
    rwa [if_neg (by omega),if_neg (by omega)]at this
   ·rw[bW r.l (by omega),bW r'.l (by omega)]
 refine⟨?_,hl⟩
 rcases bT f with h1 |⟨rfl,h1⟩ |⟨rfl,h1⟩
 ·exact absurd h1 hw
 ·rw[(pZ a).1,(pZ a').1]
 ·apply Nat.eq_of_testBit_eq
  intro k
  by_cases hk:k<64
  ·have:=he (k+64) (by omega)
   unfold bN at this
   rw[if_pos (by omega),if_pos (by omega)]at this
   simpa using this
  ·rw[bW r.h (by omega),bW r'.h (by omega)]
def Db (h l h' l':Nat):Prop:=h<h'∨(h=h'∧l<l')
theorem Em {f:Int} {h l h' l':Nat} (r:dR h l) (r':dR h' l') (a:bZ f h l=true) (a':bZ f h' l'=true) {k:Nat} (hk:k<ac f) (he:∀ j,k<j→j<ac f→bN h l j=bN h' l' j)
  (h0:bN h l k=false) (h1:bN h' l' k=true):Db h l h' l':=by
 rcases bT f with hf |⟨rfl,hf⟩ |⟨rfl,hf⟩
 ·omega
 ·obtain⟨rfl,_⟩:=pZ a
  obtain⟨rfl,_⟩:=pZ a'
  refine .inr ⟨rfl,np k ?_ ?_ ?_⟩
  ·unfold bN at h0;rwa [if_neg (by omega)]at h0
  ·unfold bN at h1;rwa [if_neg (by omega)]at h1
  ·intro j hj
   by_cases qf:j<32
   ·have:=he j hj (by omega)
    unfold bN at this
    rwa [if_neg (by omega),if_neg (by omega)]at this
   ·rw[f8 (pZ a).2 (by omega),f8 (pZ a').2 (by omega)]
 ·by_cases hk2:63<k
  ·refine .inl (np (k - 64) ?_ ?_ ?_)
   ·unfold bN at h0;rwa [if_pos hk2]at h0
   ·unfold bN at h1;rwa [if_pos hk2]at h1
   ·intro j hj
    by_cases qf:j<64
    ·have:=he (j+64) (by omega) (by omega)
     unfold bN at this
     rw[if_pos (by omega),if_pos (by omega)]at this
     simpa using this
    ·rw[bW r.h (by omega),bW r'.h (by omega)]
  ·refine .inr ⟨?_,np k ?_ ?_ ?_⟩
   ·apply Nat.eq_of_testBit_eq
    intro j
    by_cases hj:j<64
    ·have:=he (j+64) (by omega) (by omega)
     unfold bN at this
     rw[if_pos (by omega),if_pos (by omega)]at this
     simpa using this
    ·rw[bW r.h (by omega),bW r'.h (by omega)]
   ·unfold bN at h0;rwa [if_neg hk2]at h0
   ·unfold bN at h1;rwa [if_neg hk2]at h1
   ·intro j hj
    by_cases qf:j<64
    ·have:=he j hj (by omega)
     unfold bN at this
     rwa [if_neg (by omega),if_neg (by omega)]at this
    ·rw[bW r.l (by omega),bW r'.l (by omega)]
theorem si {p q:Pf} (h:p.bits<+:q.bits):p.n≤q.n∧∀ i,i<p.n→p.b i=q.b i:=by
 have hl:=h.length_le
 rw[p.len,q.len]at hl
 refine⟨hl,fun i hi=> ?_⟩
 obtain⟨s,hs⟩:=h
 have h1:=p.get hi
 have h2:=q.get (show i<q.n by omega)
 rw[←hs,List.getElem?_append_left (by rw[p.len];exact hi),h1]at h2
 exact Option.some.inj h2
theorem Bu {p q:Pf} (h:p.n≤q.n) (h2:∀ i,i<p.n→p.b i=q.b i):p.bits<+:q.bits:=by
 rw[List.prefix_iff_eq_take,p.len]
 apply List.ext_getElem?
 intro i
 by_cases hi:i<p.n
 ·rw[p.get hi,List.getElem?_take_of_lt hi,q.get (by omega),h2 i hi]
 ·rw[List.getElem?_eq_none (by rw[p.len];omega),List.getElem?_eq_none (by rw[List.length_take,q.len];omega)]
theorem Gg {p q:Pf} (hf:p.f=q.f) {k:Nat} (hk:k<ac p.f) (h:p.b (ac p.f - 1 - k)=q.b (ac p.f - 1 - k)):bN p.h p.l k=bN q.h q.l k:=by
 unfold Pf.b at h
 rw[←hf,show ac p.f - 1 - (ac p.f - 1 - k)=k by omega]at h
 exact h
theorem sj {p q:Pf} (hp:p.ok) (hq:q.ok) (hf:p.f=q.f) (hb:p.bits=q.bits):p=q:=by
 have hn:p.n=q.n:=by rw[←p.len,←q.len,hb]
 have h1:=(si (p:=p) (q:=q) (by rw[hb];exact List.prefix_refl _)).2
 have:=vm hp.r hq.r hp.all.1 hp.all.2.1 (by rw[hf];exact hq.all.2.1) (fun k hk=>Gg hf hk (by
  by_cases hi:ac p.f - 1 - k<p.n
  ·exact h1 _ hi
  ·rw[hp.IX (by omega) (by omega),hq.IX (by omega) (by rw[←hf];omega)]))
 obtain⟨f,h,l,n⟩:=p
 obtain⟨f',h',l',n'⟩:=q
 dsimp only at*
 rw[hf,hn,this.1,this.2]
def Pf.cut (p:Pf) (m:Nat):Pf:=⟨p.f,(gH p.f p.h p.l (ac p.f - m)).1,(gH p.f p.h p.l (ac p.f - m)).2,m⟩
theorem sk {f:Int} {h l n k:Nat}:bN (gH f h l n).1 (gH f h l n).2 k=(decide (n≤k)&&bN h l k):=by
 unfold gH bN
 by_cases hn:64≤n
 ·rw[if_pos hn]
  dsimp only
  by_cases hk:63<k
  ·rw[if_pos hk,if_pos hk,dQ]
   congr 1
   apply decide_eq_decide.2;omega
  ·rw[if_neg hk,if_neg hk]
   simp
   intro h;omega
 ·rw[if_neg hn]
  dsimp only
  by_cases hk:63<k
  ·rw[if_pos hk,if_pos hk]
   have:n≤k:=by omega
   simp[this]
  ·rw[if_neg hk,if_neg hk,dQ]
theorem z6 {f:Int} {h l n:Nat} (r:dR h l):dR (gH f h l n).1 (gH f h l n).2:=by
 unfold gH
 split
 ·exact⟨yS r.h,by show (0:Nat)<_;omega⟩
 ·exact⟨r.h,yS r.l⟩
theorem Dc {f:Int} {h l n:Nat} (a:bZ f h l=true):bZ f (gH f h l n).1 (gH f h l n).2=true:=by
 unfold bZ at a⊢
 split
 ·rfl
 ·rename_i hf
  rw[if_neg hf]at a
  simp only[decide_eq_true_eq]at a⊢
  obtain⟨h1,rfl,h3⟩:=a
  unfold gH
  split
  ·exact⟨h1,Nat.le_zero.1 (C4 _ _),by show (0:Nat)<_;omega⟩
  ·exact⟨h1,rfl,yS h3⟩
theorem sm {p:Pf} (hr:dR p.h p.l) (hw:ac p.f≠0) (ha:bZ p.f p.h p.l=true) {m:Nat} (hm:m≤ac p.f):(p.cut m).ok:=by
 have hc:gH p.f (gH p.f p.h p.l (ac p.f - m)).1 (gH p.f p.h p.l (ac p.f - m)).2 (ac p.f - m)=((gH p.f p.h p.l (ac p.f - m)).1,(gH p.f p.h p.l (ac p.f - m)).2):=by
  refine (yU (z6 hr)).2 fun k hk=> ?_
  rw[sk]
  have: ¬ac p.f - m≤k:=by omega
  simp[this]
 refine⟨z6 hr, ?_⟩
 unfold Pf.cut cy
 dsimp only
 rw[if_neg hw,if_pos ⟨Dc ha,by omega,by omega,by rw[Int.toNat_natCast];exact hc⟩]
theorem sq {p:Pf} {m:Nat} (hm:m≤p.n) (hn:p.n≤ac p.f):(p.cut m).bits=p.bits.take m:=by
 apply List.ext_getElem?
 intro i
 by_cases hi:i<m
 ·rw[(p.cut m).get (show i<(p.cut m).n from hi),List.getElem?_take_of_lt hi,p.get (by omega)]
  unfold Pf.b Pf.cut
  dsimp only
  rw[sk]
  have:ac p.f - m≤ac p.f - 1 - i:=by omega
  simp[this]
 ·rw[List.getElem?_eq_none (by rw[(p.cut m).len];show m≤i;omega),List.getElem?_eq_none (by rw[List.length_take];omega)]
def Bv (p q:Pf):Int:=if p.f<q.f then -1 else if q.f<p.f then 1 else if fM p.bits q.bits=true then -1 else if fM q.bits p.bits=true then 1 else 0
theorem xe {p q:Pf} (hp:p.ok) (hq:q.ok) (hf:p.f=q.f) (h:fM p.bits q.bits=true):Db p.h p.l q.h q.l∨(p.h=q.h∧p.l=q.l∧p.n<q.n):=by
 have first:∀ i,i<ac p.f→(∀ j,j<i→p.b j=q.b j)→p.b i=false→q.b i=true→Db p.h p.l q.h q.l:=by
  intro i hi he h0 h1
  refine Em hp.r hq.r hp.all.2.1 (by rw[hf];exact hq.all.2.1) (k:=ac p.f - 1 - i) (by omega) (fun j hj hw=>Gg hf hw (he _ (by omega))) h0 ?_
  unfold Pf.b at h1;rwa [←hf]at h1
 have H9:=hp.all.2.2.1
 have IY:=hq.all.2.2.1
 rcases w_ h with⟨mA,hlen⟩ |⟨t,s,u,e1,e2⟩
 ·rw[p.len,q.len]at hlen
  have hb:=(si mA).2
  rcases Classical.em (∃ i,i<ac p.f∧p.b i≠q.b i)with⟨i,hi⟩ |hno
  ·obtain⟨m,h1,⟨h2,J7⟩,h3⟩:=vf (P:=fun i=>i<ac p.f∧p.b i≠q.b i) i hi
   have hm:p.n≤m:=by
    rcases Nat.lt_or_ge m p.n with hlt |hge
    ·exact absurd (hb m hlt) J7
    ·exact hge
   have hz:=hp.IX hm h2
   refine .inl (first m h2 (fun j hj=>Classical.byContradiction fun hc=>h3 j hj ⟨by omega,hc⟩) hz ?_)
   cases MA:q.b m
   ·rw[hz,MA]at J7;exact absurd rfl J7
   ·rfl
  ·have:=vm hp.r hq.r hp.all.1 hp.all.2.1 (by rw[hf];exact hq.all.2.1) (fun k hk=>Gg hf hk (Classical.byContradiction fun hc=>hno ⟨_,by omega,hc⟩))
   exact .inr ⟨this.1,this.2,hlen⟩
 ·have l1:=p.len;have l2:=q.len
  rw[e1]at l1;rw[e2]at l2
  simp at l1 l2
  have g:∀ i,i≤t.length→p.bits[i]? =some (p.b i)∧q.bits[i]? =some (q.b i):=fun i hi=>⟨p.get (by omega),q.get (by omega)⟩
  refine .inl (first t.length (by omega) (fun j hj=> ?_) ?_ ?_)
  ·have:=g j (by omega)
   rw[e1,e2,List.getElem?_append_left hj,List.getElem?_append_left hj]at this
   exact Option.some.inj (this.1.symm.trans this.2)
  ·have:=(g t.length (Nat.le_refl _)).1
   rw[e1,List.getElem?_append_right (Nat.le_refl _),Nat.sub_self]at this
   exact (Option.some.inj this).symm
  ·have:=(g t.length (Nat.le_refl _)).2
   rw[e2,List.getElem?_append_right (Nat.le_refl _),Nat.sub_self]at this
   exact (Option.some.inj this).symm
end Go.Proofs.Ytkfnkiejikhglaa.Own
namespace Go.Proofs.Ytkfnkiejikhglaa.Own
open Go Go.Proofs.Ytkfnkiejikhglaa.GD Go.Proofs.Ytkfnkiejikhglaa.GD.Trie
def bi (b:Bool):Int:=if b=true then 1 else 0
theorem z7 {x k m:Nat} (hx:x<18446744073709551616) (hk:m=k):IntKind.i64.wrap (IntKind.u64.wrap (BitVec.ofInt (IntKind.u64).bits (Int.fdiv (x:Int) (2^m))&&&BitVec.ofInt (IntKind.u64).bits 1).toNat)=bi (x.testBit k):=by
 subst hk
 have h1:Int.fdiv (x:Int) (2^m)=((x/2^m:Nat):Int):=by
  rw[Int.fdiv_eq_ediv_of_nonneg _ (Int.le_of_lt (Int.pow_pos (by omega)))]
  simp
 have h2:x/2^m<18446744073709551616:=Nat.lt_of_le_of_lt (Nat.div_le_self _ _) hx
 have h3:=qy h2 (show 1<18446744073709551616 by omega)
 rw[h1,show (1:Int)=((1:Nat):Int)from rfl,h3,Nat.and_one_is_mod,pX]
 unfold bi
 split<;>rfl
theorem Eo {f:Int} {h l:Nat} (r:dR h l) (ha:bZ f h l=true) (hw:ac f≠0) (i:Nat):Cl ty tab 60 [.int .u8 f,tV h l,.int .i64 i]=some (if i<ac f then [.int .i64 (bi (bN h l (ac f - 1 - i))),.int .i64 0]else [.int .i64 0,.int .i64 2]):=by
 refine uZ 0 _ _ _ _ ?_
 unfold rP
 have hw2:ac f≤128:=by rcases bT f with h |⟨_,h⟩ |⟨_,h⟩<;>omega
 by_cases hi:i<ac f
 ·rw[if_pos hi]
  have h1: ¬(i:Int)<0:=by omega
  have h2: ¬((ac f:Nat):Int)≤(i:Int):=by omega
  by_cases hk:63<ac f - 1 - i
  ·have h3:(64:Int)≤((ac f:Nat):Int) - 1 - i:=by omega
   have h4: ¬((ac f:Nat):Int) - 1 - i - 64<0:=by omega
   have h5:min (((ac f:Nat):Int) - 1 - i - 64).toNat IntKind.u64.bits=ac f - 1 - i - 64:=by show min _ 64=_;omega
   have hb:=z7 r.h h5
   unfold bN
   rw[if_pos hk]
   simp (disch:=omega) only[ay,f7,dk,ha,h1,h2,h3,h4,hb]
  ·have h3: ¬(64:Int)≤((ac f:Nat):Int) - 1 - i:=by omega
   have h4: ¬((ac f:Nat):Int) - 1 - i<0:=by omega
   have h5:min (((ac f:Nat):Int) - 1 - i).toNat IntKind.u64.bits=ac f - 1 - i:=by show min _ 64=_;omega
   have hb:=z7 r.l h5
   unfold bN
   rw[if_neg hk]
   simp (disch:=omega) only[ay,f7,dk,ha,h1,h2,h3,h4,hb]
 ·rw[if_neg hi]
  have h1: ¬(i:Int)<0:=by omega
  have h2:((ac f:Nat):Int)≤(i:Int):=by omega
  simp (disch:=omega) only[ay,f7,dk,ha,h1,h2]
theorem qD {p:Pf} (hp:p.ok) (i:Nat):Cl ty tab 86 [p.d,.int .i64 i]=some [.int .i64 (bi (Trie.aM p.bits i))]:=by
 refine yO 0 _ _ _ _ _ ?_
 unfold wV
 have hb:=Eo hp.r hp.all.2.1 hp.all.1 i
 by_cases hi:i<ac p.f
 ·rw[if_pos hi]at hb
  rw[hp.aM hi]
  simp (disch:=omega) only[ay,hb]
  rfl
 ·rw[if_neg hi]at hb
  have:Trie.aM p.bits i=false:=by
   have:=hp.all.2.2.1
   simp[Trie.aM,zq1,List.getElem?_eq_none (show p.bits.length≤i by rw[p.len];omega)]
  rw[this]
  simp (disch:=omega) only[ay,hb,Int.reduceEq]
  rfl
theorem Ep {p:Pf} (hr:dR p.h p.l) (hw:ac p.f≠0) (ha:bZ p.f p.h p.l=true) {m:Nat} (hm:m≤ac p.f):Cl ty tab 115 [.int .u8 p.f,tV p.h p.l,.int .i64 m]=some [(p.cut m).d,.int .i64 0]:=by
 refine u0 0 _ _ _ _ ?_
 unfold rQ
 have hf:p.f=4∨p.f=6:=by rcases bT p.f with h |⟨h,_⟩ |⟨h,_⟩;exact absurd h hw;exact .inl h;exact .inr h
 obtain⟨mh,ml,J8,tW,fa⟩:=u_ p.f (m:Int) hf (by omega) (by omega)
 have hc:=fa p.h p.l hr ha
 have hand:=yT p.h p.l mh ml hr J8
 have h1: ¬(m:Int)<0:=by omega
 have h2: ¬((ac p.f:Nat):Int)<(m:Int):=by omega
 rw[Int.toNat_natCast]at hc
 have e:(p.cut m).d=P4 p.f (p.h&&&mh) (p.l&&&ml) m:=by
  unfold Pf.cut Pf.d
  rw[←hc]
 rw[e]
 simp (disch:=omega) only[ay,f7,dk,ha,h1,h2,tW,hand]
theorem t8 {p q:Pf} (hp:p.ok) (hq:q.ok):Cl ty tab 29 [p.d,q.d]=some [.bool (decide (p.f=q.f)&&pre p.bits q.bits)]:=by
 refine qn 0 _ _ _ _ _ _ _ _ ?_
 unfold mT
 have c1:=eI p.f p.h p.l p.n hp.r
 have c2:=eI q.f q.h q.l q.n hq.r
 rw[hp.c]at c1
 rw[hq.c]at c2
 by_cases hf:p.f=q.f
 ·by_cases hn:p.n≤q.n
  ·have hw:=hp.all.1
   have MB:p.f=4∨p.f=6:=by rcases hp.DI with⟨h,_⟩ |⟨h,_⟩;exact .inl h;exact .inr h
   obtain⟨mh,ml,J8,tW,fa⟩:=u_ p.f (p.n:Int) MB (by omega) (by have:=hp.all.2.2.1;omega)
   have hc:=fa q.h q.l hq.r (by rw[hf];exact hq.all.2.1)
   rw[Int.toNat_natCast]at hc
   have hand:=yT q.h q.l mh ml hq.r J8
   have hcb:=sq (p:=q) hn hq.all.2.2.1
   have MC:=sm (p:=q) hq.r hq.all.1 hq.all.2.1 (m:=p.n) (by have:=hq.all.2.2.1;omega)
   have h1: ¬(q.n:Int)<(p.n:Int):=by omega
   have hres:(decide (((q.h&&&mh:Nat):Int)=p.h)&&decide (((q.l&&&ml:Nat):Int)=p.l))=pre p.bits q.bits:=by
    have hx:(q.cut p.n).h=q.h&&&mh∧(q.cut p.n).l=q.l&&&ml:=by
     unfold Pf.cut
     dsimp only
     rw[←hf,←hc]
     exact⟨rfl,rfl⟩
    cases H4:pre p.bits q.bits
    ·rw[Bool.eq_false_iff]
     intro Gi
     simp only[zq3,decide_eq_true_eq]at Gi
     have e:q.cut p.n=p:=by
      obtain⟨e1,e2⟩:=hx
      have h3:(q.cut p.n).f=p.f:=hf.symm
      have h4:(q.cut p.n).n=p.n:=rfl
      generalize q.cut p.n=z at*
      obtain⟨f,h,l,n⟩:=z
      obtain⟨f',h',l',n'⟩:=p
      dsimp only at*
      rw[h3,h4,e1,e2,Int.ofNat_inj.1 Gi.1,Int.ofNat_inj.1 Gi.2]
     rw[e]at hcb
     have:pre p.bits q.bits=true:=dH.2 (by rw[hcb];exact List.take_prefix ..)
     rw[H4]at this;cases this
    ·have h3:=dH.1 H4
     rw[List.prefix_iff_eq_take,p.len,←hcb]at h3
     have e:=sj hp MC hf h3
     have e1:p.h=q.h&&&mh:=by rw[←hx.1,←e]
     have e2:p.l=q.l&&&ml:=by rw[←hx.2,←e]
     rw[←e1,←e2]
     simp
   rw[←hres]
   rw[hf]at tW c1
   simp (disch:=omega) only[ay,c1,c2,hf,h1,tW,hand]
  ·have h1:(q.n:Int)<(p.n:Int):=by omega
   have:pre p.bits q.bits=false:=by
    cases hc:pre p.bits q.bits
    ·rfl
    ·have:=(dH.1 hc).length_le
     rw[p.len,q.len]at this;omega
   rw[this]
   rw[hf]at c1
   simp (disch:=omega) only[ay,c1,c2,hf,h1]
 ·simp (disch:=omega) only[ay,c1,c2,hf]
theorem t9 {x y:Bs}:∀ {i:Nat},i<(dX x y).length→Trie.aM x i=Trie.aM y i:=by
 intro i hi
 obtain⟨s,hs⟩:=dm x y
 obtain⟨u,hu⟩:=jP x y
 have e1:x[i]? =(dX x y)[i]? :=by rw[←List.getElem?_append_left hi (l₂:=s),hs]
 have e2:y[i]? =(dX x y)[i]? :=by rw[←List.getElem?_append_left hi (l₂:=u),hu]
 unfold Trie.aM
 rw[zq1,zq1,e1,e2]
theorem xf {x y:Bs} (h1:(dX x y).length<x.length) (h2:(dX x y).length<y.length):Trie.aM x (dX x y).length≠Trie.aM y (dX x y).length:=by
 intro hc
 have p1:dX x y++[Trie.aM x (dX x y).length]<+:x:=by
  obtain⟨s,hs⟩:=dm x y
  generalize dX x y=t at*
  subst hs
  cases s with
  |nil=>simp at h1
  |cons b s=>rw[Trie.ir];exact⟨s,by simp⟩
 have p2:dX x y++[Trie.aM y (dX x y).length]<+:y:=by
  obtain⟨s,hs⟩:=jP x y
  generalize dX x y=t at*
  subst hs
  cases s with
  |nil=>simp at h2
  |cons b s=>rw[Trie.ir];exact⟨s,by simp⟩
 rw[hc]at p1
 have:=(zY p1 p2).length_le
 simp at this
 omega
theorem Dd (a b:Bool):(bi a=bi b)↔a=b:=by cases a<;>cases b<;>simp[bi]
theorem De {p q:Pf} (hp:p.ok) (hq:q.ok) (hf:p.f=q.f):Cl ty tab 105 [p.d,q.d]=some [(p.cut (dX p.bits q.bits).length).d]:=by
 obtain⟨k,hk⟩:=bY
 refine u3 k _ _ _ _ _ _ _ _ ?_
 unfold eL
 have l1:=(dm p.bits q.bits).length_le
 have l2:=(jP p.bits q.bits).length_le
 rw[p.len]at l1
 rw[q.len]at l2
 have H9:=hp.all.2.2.1
 have hw2:ac p.f≤128:=by rcases hp.DI with⟨_,h⟩ |⟨_,h⟩<;>omega
 have key:= @xf p.bits q.bits
 rw[p.len,q.len]at key
 have same:= @t9 p.bits q.bits
 generalize hL:(dX p.bits q.bits).length=N at*
 have fa:=fun m (hm:m≤ac p.f)=>Ep (p:=p) hp.r hp.all.1 hp.all.2.1 hm
 have tp:=qD hp
 have tq:=qD hq
 have:=bP (F:=eL.b0 (Cl ty tab) k) N (fun i=>[.int .i64 i,.pv [.int .u8 p.f,.int .u64 (p.h:Int),.int .u64 (p.l:Int),.int .i64 (p.n:Int)],.pv [.int .u8 q.f,.int .u64 (q.h:Int),.int .u64 (q.l:Int),.int .i64 (q.n:Int)],.pv [.int .u8 0,.int .u64 0,.int .u64 0,.int .i64 0]])
  (fun _=>some [(p.cut N).d]) (fun i hi again ha=> ?_) (fun again=> ?_) k (by omega) 0 (by omega)
 ·exact this
 ·unfold eL.b0
  have h1:(i:Int)<(if (q.n:Int)<(p.n:Int)then (q.n:Int)else p.n):=by split<;>omega
  have h2:=same hi
  simp (disch:=omega) only[ay,tp,tq,h1,h2,Int.natCast_add,Int.natCast_one]at ha⊢
  exact ha
 ·unfold eL.b0
  by_cases h1:(N:Int)<(if (q.n:Int)<(p.n:Int)then (q.n:Int)else p.n)
  ·have h2:N<p.n∧N<q.n:=by split at h1<;>omega
   have h3:=key h2.1 h2.2
   have h4: ¬bi (Trie.aM p.bits N)=bi (Trie.aM q.bits N):=by rw[Dd];exact h3
   simp (disch:=omega) only[ay,tp,tq,h1,h4,fa]
  ·simp (disch:=omega) only[ay,h1,fa]
theorem sr {p q:Pf} (hp:p.ok) (hq:q.ok):(p.cut (dX p.bits q.bits).length).ok∧(p.cut (dX p.bits q.bits).length).bits=dX p.bits q.bits:=by
 have l1:=(dm p.bits q.bits).length_le
 rw[p.len]at l1
 have H9:=hp.all.2.2.1
 refine⟨sm hp.r hp.all.1 hp.all.2.1 (by omega), ?_⟩
 rw[sq l1 H9]
 have:=List.prefix_iff_eq_take.1 (dm p.bits q.bits)
 exact this.symm
theorem Gj (x:Int):Cl ty tab 127 [.int .u8 x]=some [.bool false]:=by
 refine qi 0 x ?_
 unfold mN
 simp
theorem Df (x:Int):Cl ty tab 134 [.int .u64 x]=some [.bool false]:=by
 refine qj 0 x ?_
 unfold mO
 simp
theorem Gk (x:Int):Cl ty tab 107 [.int .i64 x]=some [.bool false]:=by
 refine qk 0 x ?_
 unfold mP
 simp
def iP (a b:Int):Int:=if a<b then -1 else if b<a then 1 else 0
theorem J9 (x y:Int):Cl ty tab 112 [.int .u8 x,.int .u8 y]=some [.int .i64 (iP x y)]:=by
 refine ob 0 x y ?_
 unfold kH iP
 by_cases h1:x<y
 ·simp (disch:=omega) only[ay,Gj,h1]
 ·by_cases h2:y<x
  ·simp (disch:=omega) only[ay,Gj,h1,h2]
  ·simp (disch:=omega) only[ay,Gj,h1,h2]
theorem Fu (x y:Int):Cl ty tab 128 [.int .u64 x,.int .u64 y]=some [.int .i64 (iP x y)]:=by
 refine oc 0 x y ?_
 unfold kI iP
 by_cases h1:x<y
 ·simp (disch:=omega) only[ay,Df,h1]
 ·by_cases h2:y<x
  ·simp (disch:=omega) only[ay,Df,h1,h2]
  ·simp (disch:=omega) only[ay,Df,h1,h2]
theorem J_ (x y:Int):Cl ty tab 114 [.int .i64 x,.int .i64 y]=some [.int .i64 (iP x y)]:=by
 refine od 0 x y ?_
 unfold kJ iP
 by_cases h1:x<y
 ·simp (disch:=omega) only[ay,Gk,h1]
 ·by_cases h2:y<x
  ·simp (disch:=omega) only[ay,Gk,h1,h2]
  ·simp (disch:=omega) only[ay,Gk,h1,h2]
def qq (h l h' l':Nat):Int:=if iP h h'≠0 then iP h h' else iP l l'
theorem Es (h l h' l':Nat):Cl ty tab 113 [tV h l,tV h' l']=some [.int .i64 (qq h l h' l')]:=by
 refine ph 0 _ _ _ _ ?_
 unfold lE qq
 by_cases h1:iP (h:Int) h'=0
 ·simp (disch:=omega) only[ay,Fu,h1]
 ·simp (disch:=omega) only[ay,Fu,h1]
theorem H_ (a b c:Int):Cl ty tab 111 [.sl 3 false [.int .i64 a,.int .i64 b,.int .i64 c]]=some [.int .i64 (if a≠0 then a else if b≠0 then b else c)]:=by
 refine C2 5 _ _ ?_
 unfold pg
 have Dg:∀ {R:Type} (k:Nat) (F:List D→(List D→Option R)→Option R) (vs:List D),iter (k+1) F vs=F vs (iter k F):=fun _ _ _=>rfl
 by_cases ha:a=0<;>by_cases hb:b=0<;>by_cases hc:c=0<;>
  simp (disch:=omega) only[ay,Dg,pg.b0,ha,hb,hc,ne_eq,not_true_eq_false,not_false_eq_true,Int.reduceToNat,Int.reduceAdd,Int.reduceLT,Int.reduceLE,Int.zero_add,Int.reduceNeg,Nat.reduceAdd]<;>simp[IntKind.wrap_i64,Dg,pg.b0,ha,hb,hc]
def sT (f:Int) (h l:Nat) (n:Int) (f':Int) (h' l':Nat) (n':Int):Int:=if iP f f'≠0 then iP f f' else if qq h l h' l'≠0 then qq h l h' l' else iP n n'
theorem Bw (f:Int) (h l:Nat) (n:Int) (f':Int) (h' l':Nat) (n':Int):Cl ty tab 103 [P4 f h l n,P4 f' h' l' n']=some [.int .i64 (sT f h l n f' h' l' n')]:=by
 refine uX 0 _ _ _ _ _ _ _ _ ?_
 unfold rL sT
 simp (disch:=omega) only[ay,J9,Es,J_,H_]
theorem z8 {p q:Pf} (hp:p.ok) (hq:q.ok):sT p.f p.h p.l p.n q.f q.h q.l q.n=Bv p q:=by
 unfold sT
 unfold Bv
 by_cases h1:p.f<q.f
 ·simp[iP,h1]
 rw[if_neg h1]
 by_cases h2:q.f<p.f
 ·simp[iP,h1,h2]
 rw[if_neg h2]
 have hf:p.f=q.f:=by omega
 have h3:iP p.f q.f=0:=by simp[iP,hf]
 rw[h3]
 simp only[ne_eq,not_true_eq_false,if_false]
 rcases ow p.bits q.bits with h |h |h
 ·rw[if_pos h]
  rcases xe hp hq hf h with ha |⟨e1,e2,e3⟩
  ·unfold Db at ha
   have:qq p.h p.l q.h q.l= -1:=by
    unfold qq iP
    rcases ha with ha |⟨ha,hb⟩
    ·have:(p.h:Int)<q.h:=by omega
     simp[this]
    ·have:(p.l:Int)<q.l:=by omega
     simp[ha,this]
   rw[this];rfl
  ·have MD:(p.n:Int)<q.n:=by omega
   simp[qq,iP,e1,e2,MD]
 ·have:=sj hp hq hf h
  subst this
  simp[qq,iP,dS]
 ·rw[tY h,h]
  simp only[Bool.false_eq_true,if_false,if_true]
  rcases xe hq hp hf.symm h with ha |⟨e1,e2,e3⟩
  ·unfold Db at ha
   have:qq p.h p.l q.h q.l=1:=by
    unfold qq iP
    rcases ha with ha |⟨ha,hb⟩
    ·have h5:(q.h:Int)<p.h:=by omega
     have h6: ¬(p.h:Int)<q.h:=by omega
     simp[h5,h6]
    ·have h5:(q.l:Int)<p.l:=by omega
     have h6: ¬(p.l:Int)<q.l:=by omega
     simp[ha,h5,h6]
   rw[this];rfl
  ·have h5:(q.n:Int)<p.n:=by omega
   have h6: ¬(p.n:Int)<q.n:=by omega
   simp[qq,iP,e1,e2,h5,h6]
theorem z9 {p q:Pf}:Bv p q<0↔p.f<q.f∨(p.f=q.f∧fM p.bits q.bits=true):=by
 unfold Bv
 by_cases h1:p.f<q.f
 ·simp[h1]
 ·by_cases h2:q.f<p.f
  ·have: ¬p.f=q.f:=by omega
   simp[h1,h2,this]
  ·have:p.f=q.f:=by omega
   cases h3:fM p.bits q.bits
   ·simp[h1,h2,h3]
    split<;>omega
   ·simp[h1,h2,h3,this]
end Go.Proofs.Ytkfnkiejikhglaa.Own
namespace Go.Proofs.Ytkfnkiejikhglaa.GD
section
open Go Go.Sort
section
variable {α:Type} (E:α→D)
def ar (d:Array α):List D:=d.toList.map E
theorem cG (d:Array α):(ar E d).length=d.size:=by simp[ar]
theorem Ia (l:List α):ar E l.toArray=l.map E:=by simp[ar]
variable [Inhabited α]
theorem aX {d:Array α} {i:Nat} (h:i<d.size):(ar E d).getD i .undef=E d[i]! :=by
 simp[ar,zq1,h]
theorem db (d:Array α) (i j:Nat):((ar E d).set i (E d[j]!)).set j (E d[i]!)=ar E (swp d i j):=by
 simp[ar,swp,List.map_set]
end
theorem cS {α:Type} [Inhabited α] (d:Array α) (i j:Nat):(swp d i j).size=d.size:=by simp[swp]
section
variable {α:Type} [Inhabited α] (lt:α→α→Bool)
theorem sU {a j:Nat} {d:Array α} (h:j≤a):insInner lt a j d=d:=by
 cases j with
 |zero=>rfl
 |succ j=>unfold insInner;rw[if_neg];simp;omega
theorem vn {a j:Nat} {d:Array α} (h:a<j) (hl:lt d[j]! d[j - 1]! =true):insInner lt a j d=insInner lt a (j - 1) (swp d j (j - 1)):=by
 obtain⟨j,rfl⟩:∃ i,j=i+1:=⟨j - 1,by omega⟩
 simp only[Nat.add_sub_cancel]at hl⊢
 conv=>lhs;unfold insInner
 rw[if_pos];simp[hl];omega
theorem xg {a j:Nat} {d:Array α} (hl:lt d[j]! d[j - 1]! =false):insInner lt a j d=d:=by
 cases j with
 |zero=>rfl
 |succ j=>simp only[Nat.add_sub_cancel]at hl;unfold insInner;rw[if_neg];simp[hl]
theorem xh {a b i:Nat} {d:Array α} (h:i<b):insOuter lt a b i d=insOuter lt a b (i+1) (insInner lt a i d):=by
 conv=>lhs;unfold insOuter
 rw[if_pos h]
theorem vo {a b i:Nat} {d:Array α} (h:b≤i):insOuter lt a b i d=d:=by
 unfold insOuter
 rw[if_neg (by omega)]
theorem p8 (a:Nat):∀ (j:Nat) (d:Array α),(insInner lt a j d).size=d.size
 |0,_=>rfl
 |j+1,d=>by
  unfold insInner
  split
  ·rw[p8 a j,cS]
  ·rfl
theorem ko {hi first cV:Nat} {d:Array α} (h:hi≤2*cV+1):siftDown lt hi first cV d=d:=by
 unfold siftDown;rw[dif_pos h]
def child (hi first cV:Nat) (d:Array α):Nat:=if 2*cV+1+1<hi∧lt d[first+(2*cV+1)]! d[first+(2*cV+1)+1]! =true then 2*cV+2 else 2*cV+1
theorem jp {hi first cV:Nat} {d:Array α} (h:2*cV+1<hi) (hl:lt d[first+cV]! d[first+child lt hi first cV d]! =false):siftDown lt hi first cV d=d:=by
 unfold siftDown;rw[dif_neg (by omega)]
 unfold child at hl
 by_cases c:2*cV+1+1<hi∧lt d[first+(2*cV+1)]! d[first+(2*cV+1)+1]! =true
 ·rw[if_pos c]at hl
  rw[if_pos (by simp[c.1,c.2]),if_pos (by simp[hl])]
 ·rw[if_neg c]at hl
  rw[if_neg (by simpa using c),if_pos (by simp[hl])]
theorem ig {hi first cV:Nat} {d:Array α} (h:2*cV+1<hi) (hl:lt d[first+cV]! d[first+child lt hi first cV d]! =true):
  siftDown lt hi first cV d=siftDown lt hi first (child lt hi first cV d) (swp d (first+cV) (first+child lt hi first cV d)):=by
 conv=>lhs;unfold siftDown
 rw[dif_neg (by omega)]
 unfold child at hl⊢
 by_cases c:2*cV+1+1<hi∧lt d[first+(2*cV+1)]! d[first+(2*cV+1)+1]! =true
 ·rw[if_pos c]at hl⊢
  rw[if_pos (by simp[c.1,c.2]),if_neg (by simp[hl]),dif_pos (by omega)]
 ·rw[if_neg c]at hl⊢
  rw[if_neg (by simpa using c),if_neg (by simp[hl])]
theorem t_ {hi first cV:Nat} {d:Array α} (h:2*cV+1<hi):cV<child lt hi first cV d∧child lt hi first cV d<hi:=by
 unfold child;split<;>omega
theorem lO (hi first:Nat):∀ (n cV:Nat) (d:Array α),hi - cV≤n→(siftDown lt hi first cV d).size=d.size
 |0,cV,d,h=>by rw[ko];omega
 |n+1,cV,d,h=>by
  rcases Nat.lt_or_ge (2*cV+1) hi with h1 |h1
  ·cases hl:lt d[first+cV]! d[first+child lt hi first cV d]!
   ·rw[jp lt h1 hl]
   ·have:=t_ lt (first:=first) (d:=d) h1
    rw[ig lt h1 hl,lO hi first n _ _ (by omega),cS]
  ·rw[ko lt h1]
theorem su (hi first k:Nat) (d:Array α):heapBuild lt hi first (k+1) d=heapBuild lt hi first k (siftDown lt hi first k d):=rfl
theorem vp (first k:Nat) (d:Array α):heapPop lt first (k+1) d=heapPop lt first k (siftDown lt k first 0 (swp d first (first+k))):=rfl
theorem nq {p:α→Bool} {d:Array α} {j i:Nat} (h:i≤j) (hp:p d[i]! =true):scanUp p d j i=scanUp p d j (i+1):=by
 conv=>lhs;unfold scanUp
 rw[if_pos (by simp[h,hp])]
theorem pm {p:α→Bool} {d:Array α} {j i:Nat} (h:p d[i]! =false):scanUp p d j i=i:=by
 unfold scanUp;rw[if_neg (by simp[h])]
theorem nr {p:α→Bool} {d:Array α} {j i:Nat} (h:j<i):scanUp p d j i=i:=by
 unfold scanUp;rw[if_neg (by simp;omega)]
theorem kp {p:α→Bool} {d:Array α} {j i:Nat} (h1:1≤j) (h:i≤j) (hp:p d[j]! =true):scanDown p d i j=scanDown p d i (j - 1):=by
 obtain⟨j,rfl⟩:∃ m,j=m+1:=⟨j - 1,by omega⟩
 conv=>lhs;unfold scanDown
 rw[if_pos (by simp[h,hp])];rfl
theorem lP {p:α→Bool} {d:Array α} {j i:Nat} (h:p d[j]! =false):scanDown p d i j=j:=by
 cases j with
 |zero=>rfl
 |succ j=>unfold scanDown;rw[if_neg (by simp[h])]
theorem kq {p:α→Bool} {d:Array α} {j i:Nat} (h:j<i):scanDown p d i j=j:=by
 cases j with
 |zero=>rfl
 |succ j=>unfold scanDown;rw[if_neg (by simp;omega)]
theorem lQ {d:Array α} {b i:Nat} (h:i<b) (hl:lt d[i]! d[i - 1]! =false):scanSorted lt d b i=scanSorted lt d b (i+1):=by
 conv=>lhs;unfold scanSorted
 rw[if_pos (by simp[h,hl])]
theorem mV {d:Array α} {b i:Nat} (h:lt d[i]! d[i - 1]! =true):scanSorted lt d b i=i:=by
 unfold scanSorted;rw[if_neg (by simp[h])]
theorem iQ {d:Array α} {b i:Nat} (h:b≤i):scanSorted lt d b i=i:=by
 unfold scanSorted;rw[if_neg (by simp;omega)]
theorem mW (d:Array α) (b:Nat):∀ (n i:Nat),b - i≤n→i≤b→i≤scanSorted lt d b i∧scanSorted lt d b i≤b
 |0,i,h,hi=>by rw[iQ lt (by omega)];omega
 |n+1,i,h,hi=>by
  rcases Nat.lt_or_ge i b with h1 |h1
  ·cases hl:lt d[i]! d[i - 1]!
   ·rw[lQ lt h1 hl];have:=mW d b n (i+1) (by omega) (by omega);omega
   ·rw[mV lt hl];omega
  ·rw[iQ lt h1];omega
theorem vq {j:Nat} {d:Array α} (hl:lt d[j]! d[j - 1]! =false):shiftDown lt j d=d:=by
 cases j with
 |zero=>rfl
 |succ j=>simp only[Nat.add_sub_cancel]at hl;unfold shiftDown;rw[if_pos (by simp[hl])]
theorem sV {j:Nat} {d:Array α} (h:1≤j) (hl:lt d[j]! d[j - 1]! =true):shiftDown lt j d=shiftDown lt (j - 1) (swp d j (j - 1)):=by
 obtain⟨j,rfl⟩:∃ m,j=m+1:=⟨j - 1,by omega⟩
 simp only[Nat.add_sub_cancel]at hl⊢
 conv=>lhs;unfold shiftDown
 rw[if_neg (by simp[hl])]
theorem lS {b j:Nat} {d:Array α} (h:b≤j):shiftUp lt b j d=d:=by
 unfold shiftUp;rw[if_neg (by omega)]
theorem sv {b j:Nat} {d:Array α} (hl:lt d[j]! d[j - 1]! =false):shiftUp lt b j d=d:=by
 unfold shiftUp;split
 ·rw[if_pos (by simp[hl])]
 ·rfl
theorem p9 {b j:Nat} {d:Array α} (h:j<b) (hl:lt d[j]! d[j - 1]! =true):shiftUp lt b j d=shiftUp lt b (j+1) (swp d j (j - 1)):=by
 conv=>lhs;unfold shiftUp
 rw[if_pos h,if_neg (by simp[hl])]
theorem oB:∀ (j:Nat) (d:Array α),(shiftDown lt j d).size=d.size
 |0,d=>rfl
 |j+1,d=>by unfold shiftDown;split;· rfl
            ·rw[oB j,cS]
theorem sw (b:Nat):∀ (n j:Nat) (d:Array α),b - j≤n→(shiftUp lt b j d).size=d.size
 |0,j,d,h=>by rw[lS];omega
 |n+1,j,d,h=>by
  rcases Nat.lt_or_ge j b with h1 |h1
  ·cases hl:lt d[j]! d[j - 1]!
   ·rw[sv lt hl]
   ·rw[p9 lt h1 hl,sw b n _ _ (by omega),cS]
  ·rw[lS lt h1]
end
section
variable {α:Type} [Inhabited α]
theorem sx {i j:Nat} {d:Array α} (h:i<j):reverseLoop i j d=reverseLoop (i+1) (j - 1) (swp d i j):=by
 conv=>lhs;unfold reverseLoop
 rw[if_pos h]
theorem qr {i j:Nat} {d:Array α} (h:j≤i):reverseLoop i j d=d:=by
 unfold reverseLoop;rw[if_neg (by omega)]
end
end
section
open Go Go.Sort
theorem yX (n:Int):IntKind.u64.wrap n=n % 18446744073709551616:=by
 simp[IntKind.wrap,IntKind.bits,IntKind.signed]
theorem sy {n:Int} (h1:0≤n) (h2:n<18446744073709551616):IntKind.u64.wrap n=n:=by
 rw[yX];exact Int.emod_eq_of_lt h1 h2
theorem vt (n:Nat) (h:n<18446744073709551616):(BitVec.ofInt IntKind.u64.bits (n:Int)).toNat=n:=by
 show (BitVec.ofInt 64 (n:Int)).toNat=n
 simp;omega
theorem Fv {a b:Nat} (ha:a<18446744073709551616) (hb:b<18446744073709551616):a^^^b<18446744073709551616:=Nat.xor_lt_two_pow (n:=64) (by simpa using ha) (by simpa using hb)
theorem Gl {a b:Nat} (ha:a<18446744073709551616) (hb:b<18446744073709551616):IntKind.u64.wrap (BitVec.ofInt IntKind.u64.bits (a:Int)^^^BitVec.ofInt IntKind.u64.bits (b:Int)).toNat=((a^^^b:Nat):Int):=by
 rw[BitVec.toNat_xor,vt a ha,vt b hb]
 have:a^^^b<2^64:=Nat.xor_lt_two_pow (by simpa using ha) (by simpa using hb)
 exact sy (by omega) (by omega)
theorem Ka {a b:Nat} (ha:a<18446744073709551616) (hb:b<18446744073709551616):IntKind.u64.wrap (BitVec.ofInt IntKind.u64.bits (a:Int)&&&BitVec.ofInt IntKind.u64.bits (b:Int)).toNat=((a&&&b:Nat):Int):=by
 rw[BitVec.toNat_and,vt a ha,vt b hb]
 have:a&&&b≤b:=Nat.and_le_right
 exact sy (by omega) (by omega)
theorem ua (n:Nat) (k:Nat):((n:Int)).tdiv (k:Int)=((n/k:Nat):Int):=by
 rw[Int.tdiv_eq_ediv_of_nonneg (by omega)];rfl
theorem Fw (n:Nat) (k:Nat):Int.fdiv (n:Int) ((k:Nat):Int)=((n/k:Nat):Int):=by
 rw[Int.fdiv_eq_ediv_of_nonneg _ (by omega)];rfl
set_option maxRecDepth 20000 in
theorem ub:(⟨#[0,1,2,2,3,3,3,3,4,4,4,4,4,4,4,4,5,5,5,5,5,5,5,5,5,5,5,5,5,5,5,5,6,6,6,6,6,6,6,6,6,6,6,6,6,6,6,6,6,6,6,6,6,6,6,6,6,6,6,6,6,6,6,6,7,7,7,7,7,7,7,7,7,7,7,7,7,7,7,7,7,7,7,7,7,7,7,7,7,7,7,7,7,7,7,7,7,7,7,7,7,7,7,7,7,7,7,7,7,7,7,7,7,7,7,7,7,7,7,7,7,7,7,7,7,7,7,7,8,8,8,8,8,8,8,8,8,8,8,8,8,8,8,8,8,8,8,8,8,8,8,8,8,8,8,8,8,8,8,8,8,8,8,8,8,8,8,8,8,8,8,8,8,8,8,8,8,8,8,8,8,8,8,8,8,8,8,8,8,8,8,8,8,8,8,8,8,8,8,8,8,8,8,8,8,8,8,8,8,8,8,8,8,8,8,8,8,8,8,8,8,8,8,8,8,8,8,8,8,8,8,8,8,8,8,8,8,8,8,8,8,8,8,8,8,8,8,8,8,8,8,8,8,8,8,8]⟩:ByteArray).size=256:=by rfl
theorem Ib (n:Nat) (h:n<256):(((⟨#[0,1,2,2,3,3,3,3,4,4,4,4,4,4,4,4,5,5,5,5,5,5,5,5,5,5,5,5,5,5,5,5,6,6,6,6,6,6,6,6,6,6,6,6,6,6,6,6,6,6,6,6,6,6,6,6,6,6,6,6,6,6,6,6,7,7,7,7,7,7,7,7,7,7,7,7,7,7,7,7,7,7,7,7,7,7,7,7,7,7,7,7,7,7,7,7,7,7,7,7,7,7,7,7,7,7,7,7,7,7,7,7,7,7,7,7,7,7,7,7,7,7,7,7,7,7,7,7,8,8,8,8,8,8,8,8,8,8,8,8,8,8,8,8,8,8,8,8,8,8,8,8,8,8,8,8,8,8,8,8,8,8,8,8,8,8,8,8,8,8,8,8,8,8,8,8,8,8,8,8,8,8,8,8,8,8,8,8,8,8,8,8,8,8,8,8,8,8,8,8,8,8,8,8,8,8,8,8,8,8,8,8,8,8,8,8,8,8,8,8,8,8,8,8,8,8,8,8,8,8,8,8,8,8,8,8,8,8,8,8,8,8,8,8,8,8,8,8,8,8,8,8,8,8,8,8]⟩:ByteArray).get! n).toNat:Nat)=bitsLen n:=by
 have h2:∀ n:Fin 256,((⟨#[0,1,2,2,3,3,3,3,4,4,4,4,4,4,4,4,5,5,5,5,5,5,5,5,5,5,5,5,5,5,5,5,6,6,6,6,6,6,6,6,6,6,6,6,6,6,6,6,6,6,6,6,6,6,6,6,6,6,6,6,6,6,6,6,7,7,7,7,7,7,7,7,7,7,7,7,7,7,7,7,7,7,7,7,7,7,7,7,7,7,7,7,7,7,7,7,7,7,7,7,7,7,7,7,7,7,7,7,7,7,7,7,7,7,7,7,7,7,7,7,7,7,7,7,7,7,7,7,8,8,8,8,8,8,8,8,8,8,8,8,8,8,8,8,8,8,8,8,8,8,8,8,8,8,8,8,8,8,8,8,8,8,8,8,8,8,8,8,8,8,8,8,8,8,8,8,8,8,8,8,8,8,8,8,8,8,8,8,8,8,8,8,8,8,8,8,8,8,8,8,8,8,8,8,8,8,8,8,8,8,8,8,8,8,8,8,8,8,8,8,8,8,8,8,8,8,8,8,8,8,8,8,8,8,8,8,8,8,8,8,8,8,8,8,8,8,8,8,8,8,8,8,8,8,8,8]⟩:ByteArray).get! n.1).toNat=bitsLen n.1:=by decide+kernel
 exact h2 ⟨n,h⟩
end
end Go.Proofs.Ytkfnkiejikhglaa.GD
namespace Go.Proofs.Ytkfnkiejikhglaa.Own
open Go Go.Proofs.Ytkfnkiejikhglaa.GD Go.Proofs.Ytkfnkiejikhglaa.GD.Trie Go.Sort
structure Er where
 f:Int
 h:Nat
 l:Nat
 n:Int
 nb:Bool
 vs:List Int
deriving Inhabited
abbrev gT (l:List Int):List D:=l.map (D.int .i64)
def aB (x:Er):D:= .agg [.int .u8 x.f,.int .u64 (x.h:Int),.int .u64 (x.l:Int),.int .i64 x.n,.sl 3 x.nb (gT x.vs)]
def xi (x y:Er):Int:=sT x.f x.h x.l x.n y.f y.h y.l y.n
def aD (x y:Er):Bool:=decide (xi x y<0)
theorem enc:(∀ x:Er,(aB x).cell 0= .int .u8 x.f)∧(∀ x:Er,(aB x).cell 1= .int .u64 (x.h:Int))∧(∀ x:Er,(aB x).cell 2= .int .u64 (x.l:Int))∧(∀ x:Er,(aB x).cell 3= .int .i64 x.n)∧(∀ x:Er,(aB x).cell 4= .sl 3 x.nb (gT x.vs))∧
  (∀ x:Er,D.agg [.int .u8 x.f,.int .u64 (x.h:Int),.int .u64 (x.l:Int),.int .i64 x.n,.sl 3 x.nb (gT x.vs)]=aB x)∧(∀ x y:Er,decide (xi x y<0)=aD x y):=
 ⟨fun _=>rfl,fun _=>rfl,fun _=>rfl,fun _=>rfl,fun _=>rfl,fun _=>rfl,fun _ _=>rfl⟩
theorem z_ (x:Er):Cl ty tab 81 [aB x]=some [P4 x.f x.h x.l x.n]:=rM 0 _ _ _ _ _ _ rfl
theorem ba (x y:Er):Cl ty tab 102 [aB x,aB y,.rp [.fn 81 []] 0]=some [.int .i64 (xi x y)]:=by
 refine oe 0 _ _ _ _ _ _ _ _ _ _ _ _ ?_
 unfold kK
 have h1:=z_ x
 have h2:=z_ y
 have h3:=Bw x.f x.h x.l x.n y.f y.h y.l y.n
 unfold aB at h1 h2
 unfold xi
 simp (disch:=omega) only[ay,h1,h2,h3]
theorem qE {f:Int} {h l:Nat} {n:Int} {f':Int} {h' l':Nat} {n':Int}:sT f h l n f' h' l' n'<0↔f<f'∨(f=f'∧(h<h'∨(h=h'∧(l<l'∨(l=l'∧n<n'))))):=by
 unfold sT qq iP
 by_cases h1:f<f'
 ·simp[h1]
 by_cases h2:f'<f
 ·have: ¬f=f':=by omega
  simp[h1,h2,this]
 have h3:f=f':=by omega
 by_cases h4:(h:Int)<h'
 ·have:h<h':=by omega
  simp[h3,this]
 by_cases h5:(h':Int)<h
 ·have e1: ¬h<h':=by omega
  have e2: ¬h=h':=by omega
  have e3:h'<h:=by omega
  simp[h3,e1,e2,e3]
 have h6:h=h':=by omega
 by_cases h7:(l:Int)<l'
 ·have:l<l':=by omega
  simp[h3,h6,this]
 by_cases h8:(l':Int)<l
 ·have e1: ¬l<l':=by omega
  have e2: ¬l=l':=by omega
  have e3:l'<l:=by omega
  simp[h3,h6,e1,e2,e3]
 have h9:l=l':=by omega
 by_cases h10:n<n'
 ·simp[h3,h6,h9,h10]
 ·by_cases h11:n'<n
  ·simp[h3,h6,h9,h10,h11]
  ·simp[h3,h6,h9,h10,h11]
theorem Aa:SWO aD where
 irrefl:=fun x=>by
  simp only[aD,xi,decide_eq_false_iff_not,qE]
  omega
 trans:=fun x y z h1 h2=>by
  simp only[aD,xi,decide_eq_true_eq,qE]at h1 h2⊢
  omega
 ntrans:=fun x y z h1 h2=>by
  simp only[aD,xi,decide_eq_false_iff_not,qE]at h1 h2⊢
  omega
end Go.Proofs.Ytkfnkiejikhglaa.Own
namespace Go.Proofs.Ytkfnkiejikhglaa.Own
open Go Go.Proofs.Ytkfnkiejikhglaa.GD Go.Sort
section
variable (nb:Bool) {N:Nat} (hN:N<65536)
include hN
theorem Dh {K:Nat} (k:Nat) (l:List D) (hl:l.length=N) (a i:Nat) (again:List D→Option (List D)) (vs:List D) (hv:∃ w,vs= .int .i64 (i:Int)::w) (hi:i<N) (d:Array Er) (hd:d.size=N) (j:Nat) (hj:j≤i) (hk:j<k):
  iter k (aH.b1 (Cl ty tab) K l a again vs) [.int .i64 j,.ov 49 nb (ar aB d)]=again [.int .i64 ((i:Int)+1),.ov 49 nb (ar aB (insInner aD a j d))]:=by
 obtain⟨w,rfl⟩:=hv
 refine bk (fun s:Nat×Array Er=>[.int .i64 s.1,.ov 49 nb (ar aB s.2)]) (fun s=>again [.int .i64 ((i:Int)+1),.ov 49 nb (ar aB (insInner aD a s.1 s.2))]) (fun s=>s.1) (fun s=>s.1≤i∧s.2.size=N) (fun s hs ag ih=> ?_) k (j,d) ⟨hj,hd⟩ hk
 obtain⟨j,d⟩:=s
 obtain⟨h1,h2⟩:=hs
 dsimp only at h1 h2 ih⊢
 unfold aH.b1
 rcases Nat.lt_or_ge a j with c |c
 ·have g1:=aX aB (d:=d) (i:=j) (by omega)
  have g2:=aX aB (d:=d) (i:=j - 1) (by omega)
  cases hl2:aD d[j]! d[j - 1]!
  ·rw[xg aD hl2]
   simp (disch:=omega) only[ay,enc,hl,g1,g2,ba,hl2]
  ·rw[vn aD c hl2]
   have b9:=ih (j - 1,swp d j (j - 1)) ⟨by dsimp only;omega,by dsimp only;rw[cS];exact h2⟩ (by dsimp only;omega)
   dsimp only at b9
   rw[show ((j - 1:Nat):Int)=(j:Int) - 1 by omega]at b9
   simp (disch:=omega) only[ay,enc,hl,g1,g2,ba,hl2,db]
   exact b9
 ·rw[sU aD c]
  simp (disch:=omega) only[ay,enc,hl]
theorem Gm (d:Array Er) (hd:d.size=N) (a b:Nat) (jC:a≤b) (hb:b≤N):Cl ty tab 117 [.ov 49 nb (ar aB d),.int .i64 a,.int .i64 b,.fn 102 [.rp [.fn 81 []] 0]]=some [.ov 49 nb (ar aB (insertionSort aD d a b))]:=by
 refine gt (N+2) nb _ _ _ ?_
 unfold aH insertionSort
 have:=bk (F:=aH.b0 (Cl ty tab) (N+2) (ar aB d) a b) (fun s:Nat×Array Er=>[.int .i64 s.1,.ov 49 nb (ar aB s.2)]) (fun s=>some [.ov 49 nb (ar aB (insOuter aD a b s.1 s.2))]) (fun s=>b+1 - s.1) (fun s=>s.2.size=N∧a≤s.1∧s.1≤b+1) (fun s hs ag ih=> ?_) (N+2) (a+1,d) ⟨hd,by dsimp only;omega,by dsimp only;omega⟩ (by dsimp only;omega)
 ·dsimp only at this
  rw[show ((a+1:Nat):Int)=(a:Int)+1 by omega]at this
  simp (disch:=omega) only[ay,enc]
  exact this
 ·obtain⟨i,d'⟩:=s
  obtain⟨h1,h2,h3⟩:=hs
  dsimp only at h1 h2 h3 ih⊢
  unfold aH.b0
  rcases Nat.lt_or_ge i b with c |c
  ·rw[xh aD c]
   have b9:=ih (i+1,insInner aD a i d') ⟨by dsimp only;rw[p8];exact h1,by dsimp only;omega,by dsimp only;omega⟩ (by dsimp only;omega)
   dsimp only at b9
   rw[show ((i+1:Nat):Int)=(i:Int)+1 by omega]at b9
   have:=Dh nb hN (K:=N+2) (N+2) (ar aB d) (by rw[cG];exact hd) a i ag [.int .i64 (i:Int),.ov 49 nb (ar aB d')] ⟨_,rfl⟩ (by omega) d' h1 i (Nat.le_refl _) (by omega)
   simp (disch:=omega) only[ay,enc,this]
   exact b9
  ·rw[vo aD c]
   simp (disch:=omega) only[ay,enc]
set_option maxHeartbeats 4000000 in
theorem Ab (d:Array Er) (hd:d.size=N) (lo hi first:Nat) (h:first+hi≤N) (h2:lo≤N):Cl ty tab 129 [.ov 49 nb (ar aB d),.int .i64 lo,.int .i64 hi,.int .i64 first,.fn 102 [.rp [.fn 81 []] 0]]=some [.ov 49 nb (ar aB (siftDown aD hi first lo d))]:=by
 refine jy (N+2) nb _ _ _ _ ?_
 unfold aK
 refine bk (F:=aK.b0 (Cl ty tab) (N+2) (ar aB d) hi first) (fun s:Nat×Array Er=>[.int .i64 s.1,.ov 49 nb (ar aB s.2)]) (fun s=>some [.ov 49 nb (ar aB (siftDown aD hi first s.1 s.2))]) (fun s=>N+1 - s.1) (fun s=>s.2.size=N∧s.1≤N) (fun s hs ag ih=> ?_) (N+2) (lo,d) ⟨hd,h2⟩ (by dsimp only;omega)
 obtain⟨r,d'⟩:=s
 obtain⟨h1,h3⟩:=hs
 dsimp only at h1 h3 ih⊢
 have hl:(ar aB d).length=N:=by rw[cG];exact hd
 unfold aK.b0 aK.j0
 rcases Nat.lt_or_ge (2*r+1) hi with c |c
 ·have Hh:=t_ aD (first:=first) (d:=d') c
  have g0:=aX aB (d:=d') (i:=first+r) (by omega)
  have gc:=aX aB (d:=d') (i:=first+child aD hi first r d') (by omega)
  have e0:((first:Int)+r).toNat=first+r:=by omega
  have e1:((first:Int)+(2*(r:Int)+1)).toNat=first+(2*r+1):=by omega
  have e2:((first:Int)+(2*(r:Int)+1)+1).toNat=first+(2*r+1)+1:=by omega
  have e4:((first:Int)+(2*(r:Int)+1+1)).toNat=first+(2*r+2):=by omega
  by_cases c2:2*r+1+1<hi
  ·have g1:=aX aB (d:=d') (i:=first+(2*r+1)) (by omega)
   have g2:=aX aB (d:=d') (i:=first+(2*r+1)+1) (by omega)
   cases hc:aD d'[first+(2*r+1)]! d'[first+(2*r+1)+1]!
   ·have Ac:child aD hi first r d'=2*r+1:=by unfold child;rw[if_neg];simp[hc]
    rw[Ac]at Hh gc
    cases hlt:aD d'[first+r]! d'[first+(2*r+1)]!
    ·rw[jp aD c (by rw[Ac];exact hlt)]
     simp (disch:=omega) only[ay,enc,hl,g0,gc,e0,e1,e2,e4,g1,g2,ba,hc,hlt]
    ·rw[ig aD c (by rw[Ac];exact hlt),Ac]
     have b9:=ih (2*r+1,swp d' (first+r) (first+(2*r+1))) ⟨by dsimp only;rw[cS];exact h1,by dsimp only;omega⟩ (by dsimp only;omega)
     dsimp only at b9
     rw[show ((2*r+1:Nat):Int)=2*(r:Int)+1 by omega]at b9
     clear ih
     simp (disch:=omega) only[ay,enc,hl,g0,gc,e0,e1,e2,e4,g1,g2,ba,hc,hlt,db]
     exact b9
   ·have Ac:child aD hi first r d'=2*r+2:=by unfold child;rw[if_pos ⟨c2,hc⟩]
    rw[Ac]at Hh gc
    cases hlt:aD d'[first+r]! d'[first+(2*r+2)]!
    ·rw[jp aD c (by rw[Ac];exact hlt)]
     simp (disch:=omega) only[ay,enc,hl,g0,gc,e0,e1,e2,e4,g1,g2,ba,hc,hlt]
    ·rw[ig aD c (by rw[Ac];exact hlt),Ac]
     have b9:=ih (2*r+2,swp d' (first+r) (first+(2*r+2))) ⟨by dsimp only;rw[cS];exact h1,by dsimp only;omega⟩ (by dsimp only;omega)
     dsimp only at b9
     rw[show ((2*r+2:Nat):Int)=2*(r:Int)+1+1 by omega]at b9
     clear ih
     simp (disch:=omega) only[ay,enc,hl,g0,gc,e0,e1,e2,e4,g1,g2,ba,hc,hlt,db]
     exact b9
  ·have Ac:child aD hi first r d'=2*r+1:=by unfold child;rw[if_neg (fun x=>c2 x.1)]
   rw[Ac]at Hh gc
   cases hlt:aD d'[first+r]! d'[first+(2*r+1)]!
   ·rw[jp aD c (by rw[Ac];exact hlt)]
    simp (disch:=omega) only[ay,enc,hl,g0,gc,e0,e1,ba,hlt]
   ·rw[ig aD c (by rw[Ac];exact hlt),Ac]
    have b9:=ih (2*r+1,swp d' (first+r) (first+(2*r+1))) ⟨by dsimp only;rw[cS];exact h1,by dsimp only;omega⟩ (by dsimp only;omega)
    dsimp only at b9
    rw[show ((2*r+1:Nat):Int)=2*(r:Int)+1 by omega]at b9
    clear ih
    simp (disch:=omega) only[ay,enc,hl,g0,gc,e0,e1,ba,hlt,db]
    exact b9
 ·rw[ko aD c]
  simp (disch:=omega) only[ay,enc]
end
end Go.Proofs.Ytkfnkiejikhglaa.Own
namespace Go.Proofs.Ytkfnkiejikhglaa.Own
open Go Go.Proofs.Ytkfnkiejikhglaa.GD Go.Sort
set_option maxRecDepth 20000 in
theorem Ad (n:Nat) (h:n<65536):Cl ty tab 110 [.int .u64 (n:Int)]=some [.int .i64 ((bitsLen n:Nat):Int)]:=by
 refine yN 0 _ ?_
 unfold wT
 have e:Cl ty tab 126 [.int .u64 (n:Int)]=some [.int .i64 ((bitsLen n:Nat):Int)]:=by
  refine uU 0 _ ?_
  unfold bR bR.j2 bR.j1 bR.j0
  have w8:∀ m:Nat,m<256→IntKind.u8.wrap (m:Int)=(m:Int):=fun m hm=>by simp[IntKind.wrap,IntKind.bits,IntKind.signed];omega
  by_cases c:n<256
  ·have l8:bitsLen n≤8:=(bitsLen_le_iff n 8).2 (by omega)
   simp (disch:=omega) only[ay,enc,w8 n c,Ib n c,ub,Int.zero_add]
  ·have e1:Int.fdiv (n:Int) (2^8)=((n/256:Nat):Int):=Fw n 256
   have c2:n/256<256:=by omega
   have e2:bitsLen n=8+bitsLen (n/256):=by
    apply Nat.le_antisymm
    ·refine (bitsLen_le_iff n _).2 ?_
     have:=lt_two_pow_bitsLen (n/256)
     rw[Nat.pow_add];omega
    ·refine Nat.le_of_not_lt fun hlt=> ?_
     have h8:8≤bitsLen n:=by
      refine Nat.le_of_not_lt fun hx=> ?_
      have:=(bitsLen_le_iff n 7).1 (by omega)
      omega
     have:=(bitsLen_le_iff (n/256) (bitsLen n - 8)).2 (by
      have:=lt_two_pow_bitsLen n
      rw[show bitsLen n=8+(bitsLen n - 8)by omega,Nat.pow_add]at this
      omega)
     omega
   have l8:bitsLen (n/256)≤8:=(bitsLen_le_iff _ 8).2 (by omega)
   have e3:((bitsLen n:Nat):Int)=8+((bitsLen (n/256):Nat):Int):=by omega
   rw[e3]
   simp (disch:=omega) only[ay,enc,e1,w8 _ c2,Ib _ c2,ub,Int.zero_add]
 rw[e]
 simp (disch:=omega) only[ay,enc]
theorem Et (n:Nat) (h:n<65536):Cl ty tab 130 [.int .i64 (n:Int)]=some [.int .u64 ((1<<<bitsLen n:Nat):Int)]:=by
 refine jN 0 _ ?_
 unfold fL
 have Lh:bitsLen n≤16:=(bitsLen_le_iff n 16).2 (by omega)
 have hm:min (bitsLen n) IntKind.u64.bits=bitsLen n:=Nat.min_eq_left (by show _≤64;omega)
 have hp:2^bitsLen n≤2^16:=Nat.pow_le_pow_right (by omega) Lh
 have e:(1:Int)*(2:Int)^bitsLen n=((1<<<bitsLen n:Nat):Int):=by
  rw[Nat.shiftLeft_eq];simp
 have hb:1<<<bitsLen n<18446744073709551616:=by rw[Nat.shiftLeft_eq];omega
 have hw:IntKind.u64.wrap ((1<<<bitsLen n:Nat):Int)=((1<<<bitsLen n:Nat):Int):=by
  generalize 1<<<bitsLen n=z at*
  exact sy (by omega) (by omega)
 simp (disch:=omega) only[ay,enc,sy,Ad n h,hm,e,hw]
theorem Gn (r:UInt64):Cl ty tab 131 [.pv [.int .u64 ((r.toNat:Nat):Int)]]=some [.int .u64 (((xorNext r).toNat:Nat):Int),.pv [.int .u64 (((xorNext r).toNat:Nat):Int)]]:=by
 refine kc 0 _ ?_
 unfold gu
 rw[xorNext_toNat]
 unfold xorNextN
 have hr:r.toNat<18446744073709551616:=r.toNat_lt
 generalize r.toNat=x at*
 have a1:IntKind.u64.wrap ((x:Int)*2^13)=((x*8192 % 18446744073709551616:Nat):Int):=by rw[yX];omega
 have h1:x^^^(x*8192 % 18446744073709551616)<18446744073709551616:=Fv (by omega) (by omega)
 simp only[a1,Gl hr (show x*8192 % 18446744073709551616<18446744073709551616 by omega)]
 generalize x^^^(x*8192 % 18446744073709551616)=y at*
 have a2:Int.fdiv (y:Int) (2^7)=((y/128:Nat):Int):=Fw y 128
 have h2:y^^^(y/128)<18446744073709551616:=Fv (by omega) (by omega)
 simp only[a2,Gl h1 (show y/128<18446744073709551616 by omega)]
 generalize y^^^(y/128)=z at*
 have a3:IntKind.u64.wrap ((z:Int)*2^17)=((z*131072 % 18446744073709551616:Nat):Int):=by rw[yX];omega
 simp only[a3,Gl h2 (show z*131072 % 18446744073709551616<18446744073709551616 by omega)]
section
variable (nb:Bool) {N:Nat} (hN:N<65536)
include hN
theorem yY {K:Nat} (k:Nat) (l:List D) (hl:l.length=N) (first n:Nat) (hn:first+n≤N) (m:Nat) (hm:m≤n) (d:Array Er) (hd:d.size=N) (hk:m<k):
  iter k (aN.b1 (Cl ty tab) K l first) [.int .i64 ((m:Int) - 1),.ov 49 nb (ar aB d)]=some [.ov 49 nb (ar aB (heapPop aD first m d))]:=by
 refine bk (R:=List D) (fun s:Nat×Array Er=>[.int .i64 ((s.1:Int) - 1),.ov 49 nb (ar aB s.2)]) (fun s=>some [.ov 49 nb (ar aB (heapPop aD first s.1 s.2))]) (fun s=>s.1) (fun s=>s.1≤n∧s.2.size=N) (fun s hs ag ih=> ?_) k (m,d) ⟨hm,hd⟩ hk
 obtain⟨m,d⟩:=s
 obtain⟨h1,h2⟩:=hs
 dsimp only at h1 h2 ih⊢
 unfold aN.b1
 cases m with
 |zero=>
  simp (disch:=omega) only[ay,enc]
  rfl
 |succ m=>
  rw[show (((m+1:Nat):Int) - 1)=(m:Int)by omega,vp]
  have g0:=aX aB (d:=d) (i:=first) (by omega)
  have g1:=aX aB (d:=d) (i:=first+m) (by omega)
  have e1:((first:Int)+m).toNat=first+m:=by omega
  have sz:(swp d first (first+m)).size=N:=by rw[cS];exact h2
  have hs:=Ab nb hN (swp d first (first+m)) sz 0 m first (by omega) (by omega)
  rw[show ((0:Nat):Int)=0 from rfl]at hs
  have b9:=ih (m,siftDown aD m first 0 (swp d first (first+m))) ⟨by dsimp only;omega,by dsimp only;rw[lO aD _ _ _ _ _ (Nat.le_refl _)];exact sz⟩ (by dsimp only;omega)
  dsimp only at b9
  clear ih
  simp (disch:=omega) only[ay,enc,hl,g0,g1,e1,db,hs]
  exact b9
theorem Eu (d:Array Er) (hd:d.size=N) (a b:Nat) (jC:a<b) (hb:b≤N):Cl ty tab 118 [.ov 49 nb (ar aB d),.int .i64 a,.int .i64 b,.fn 102 [.rp [.fn 81 []] 0]]=some [.ov 49 nb (ar aB (heapSort aD d a b))]:=by
 refine jz (N+2) nb _ _ _ ?_
 unfold aN heapSort
 have hl:(ar aB d).length=N:=by rw[cG];exact hd
 have et:((b:Int) - a - 1).tdiv 2=(((b - a - 1)/2:Nat):Int):=by rw[←ua];congr 1;omega
 have:=bk (F:=aN.b0 (Cl ty tab) (N+2) (ar aB d) a b) (fun s:Nat×Array Er=>[.int .i64 ((s.1:Int) - 1),.ov 49 nb (ar aB s.2)]) (fun s=>some [.ov 49 nb (ar aB (heapPop aD a (b - a) (heapBuild aD (b - a) a s.1 s.2)))]) (fun s=>s.1) (fun s=>s.1≤N∧s.2.size=N) (fun s hs ag ih=> ?_) (N+2) ((b - a - 1)/2+1,d) ⟨by dsimp only;omega,hd⟩ (by dsimp only;omega)
 ·dsimp only at this
  rw[show ((((b - a - 1)/2+1:Nat):Int) - 1)=(((b - a - 1)/2:Nat):Int)by omega]at this
  simp (disch:=omega) only[ay,enc,et]
  exact this
 ·obtain⟨m,d'⟩:=s
  obtain⟨h1,h2⟩:=hs
  dsimp only at h1 h2 ih⊢
  unfold aN.b0
  cases m with
  |zero=>
   have hp:=yY nb hN (K:=N+2) (N+2) (ar aB d) hl a (b - a) (by omega) (b - a) (Nat.le_refl _) d' h2 (by omega)
   rw[show ((b - a:Nat):Int)=(b:Int) - a by omega]at hp
   simp (disch:=omega) only[ay,enc,hp]
   rfl
  |succ m=>
   rw[show (((m+1:Nat):Int) - 1)=(m:Int)by omega,su]
   have hs:=Ab nb hN d' h2 m (b - a) a (by omega) (by omega)
   rw[show ((b - a:Nat):Int)=(b:Int) - a by omega]at hs
   have b9:=ih (m,siftDown aD (b - a) a m d') ⟨by dsimp only;omega,by dsimp only;rw[lO aD _ _ _ _ _ (Nat.le_refl _)];exact h2⟩ (by dsimp only;omega)
   dsimp only at b9
   clear ih
   simp (disch:=omega) only[ay,enc,hs]
   exact b9
theorem Gp (d:Array Er) (hd:d.size=N) (a b:Nat) (jC:a<b) (hb:b≤N):Cl ty tab 121 [.ov 49 nb (ar aB d),.int .i64 a,.int .i64 b,.fn 102 [.rp [.fn 81 []] 0]]=some [.ov 49 nb (ar aB (reverseRange d a b))]:=by
 refine gR (N+2) nb _ _ _ ?_
 unfold a8 reverseRange
 have hl:(ar aB d).length=N:=by rw[cG];exact hd
 have:=bk (F:=a8.b0 (Cl ty tab) (N+2) (ar aB d)) (fun s:Nat×Nat×Array Er=>[.int .i64 s.1,.int .i64 s.2.1,.ov 49 nb (ar aB s.2.2)]) (fun s=>some [.ov 49 nb (ar aB (reverseLoop s.1 s.2.1 s.2.2))]) (fun s=>s.2.1) (fun s=>s.2.2.size=N∧s.2.1<N) (fun s hs ag ih=> ?_) (N+2) (a,b - 1,d) ⟨hd,by dsimp only;omega⟩ (by dsimp only;omega)
 ·dsimp only at this
  rw[show ((b - 1:Nat):Int)=(b:Int) - 1 by omega]at this
  simp (disch:=omega) only[ay,enc]
  exact this
 ·obtain⟨i,j,d'⟩:=s
  obtain⟨h1,h2⟩:=hs
  dsimp only at h1 h2 ih⊢
  unfold a8.b0
  rcases Nat.lt_or_ge i j with c |c
  ·rw[sx c]
   have g0:=aX aB (d:=d') (i:=i) (by omega)
   have g1:=aX aB (d:=d') (i:=j) (by omega)
   have b9:=ih (i+1,j - 1,swp d' i j) ⟨by dsimp only;rw[cS];exact h1,by dsimp only;omega⟩ (by dsimp only;omega)
   dsimp only at b9
   rw[show ((j - 1:Nat):Int)=(j:Int) - 1 by omega,show ((i+1:Nat):Int)=(i:Int)+1 by omega]at b9
   clear ih
   simp (disch:=omega) only[ay,enc,hl,g0,g1,db]
   exact b9
  ·rw[qr c]
   simp (disch:=omega) only[ay,enc]
theorem vu (d:Array Er) (hd:d.size=N) (a b s:Nat) (ha:a<N) (hb:b<N) (hs:s<1000):Cl ty tab 135 [.ov 49 nb (ar aB d),.int .i64 a,.int .i64 b,.pv [.int .i64 s],.fn 102 [.rp [.fn 81 []] 0]]=
  some [.int .i64 ((order2 aD d a b s).1:Nat),.int .i64 ((order2 aD d a b s).2.1:Nat),.ov 49 nb (ar aB d),.pv [.int .i64 ((order2 aD d a b s).2.2:Nat)]]:=by
 have _:=hN
 refine ke 0 nb _ _ _ _ ?_
 unfold gw order2
 have hl:(ar aB d).length=N:=by rw[cG];exact hd
 have g0:=aX aB (d:=d) (i:=a) (by omega)
 have g1:=aX aB (d:=d) (i:=b) (by omega)
 cases hc:aD d[b]! d[a]!
 ·simp (disch:=omega) only[ay,enc,hl,g0,g1,ba,hc]
 ·simp (disch:=omega) only[ay,enc,hl,g0,g1,ba,hc]
  rfl
theorem yZ (d:Array Er) (hd:d.size=N) (a b c s:Nat) (ha:a<N) (hb:b<N) (hc:c<N) (hs:s<900):Cl ty tab 133 [.ov 49 nb (ar aB d),.int .i64 a,.int .i64 b,.int .i64 c,.pv [.int .i64 s],.fn 102 [.rp [.fn 81 []] 0]]=
  some [.int .i64 ((median aD d a b c s).1:Nat),.ov 49 nb (ar aB d),.pv [.int .i64 ((median aD d a b c s).2:Nat)]]:=by
 refine kf 0 nb _ _ _ _ _ ?_
 unfold gC median
 dsimp only
 have o1:=vu nb hN d hd a b s ha hb (by omega)
 have m1:=order2_mem aD d a b s
 have c1:=order2_count (lt:=aD) d a b s
 generalize order2 aD d a b s=r1 at*
 have o2:=vu nb hN d hd r1.2.1 c r1.2.2 (by omega) hc (by omega)
 have m2:=order2_mem aD d r1.2.1 c r1.2.2
 have c2:=order2_count (lt:=aD) d r1.2.1 c r1.2.2
 generalize order2 aD d r1.2.1 c r1.2.2=r2 at*
 have o3:=vu nb hN d hd r1.1 r2.1 r2.2.2 (by omega) (by omega) (by omega)
 clear m1 c1 m2 c2
 simp (disch:=omega) only[ay,enc,o1,o2,o3]
theorem vw (d:Array Er) (hd:d.size=N) (a s:Nat) (h1:1≤a) (ha:a+1<N) (hs:s<900):Cl ty tab 132 [.ov 49 nb (ar aB d),.int .i64 a,.pv [.int .i64 s],.fn 102 [.rp [.fn 81 []] 0]]=
  some [.int .i64 ((medianAdjacent aD d a s).1:Nat),.ov 49 nb (ar aB d),.pv [.int .i64 ((medianAdjacent aD d a s).2:Nat)]]:=by
 refine fW 0 nb _ _ _ ?_
 unfold dh medianAdjacent
 have o1:=yZ nb hN d hd (a - 1) a (a+1) s (by omega) (by omega) (by omega) hs
 rw[show ((a - 1:Nat):Int)=(a:Int) - 1 by omega,show ((a+1:Nat):Int)=(a:Int)+1 by omega]at o1
 simp (disch:=omega) only[ay,enc,o1]
end
def p_:Hint→Int | .unknown=>0 | .increasing=>1 | .decreasing=>2
section
variable (nb:Bool) {N:Nat} (hN:N<65536)
include hN
set_option maxHeartbeats 1000000 in
theorem Gq (d:Array Er) (hd:d.size=N) (a b:Nat) (jC:a<b) (hb:b≤N):Cl ty tab 120 [.ov 49 nb (ar aB d),.int .i64 a,.int .i64 b,.fn 102 [.rp [.fn 81 []] 0]]=
  some [.int .i64 ((choosePivot aD d a b).1:Nat),.int .i64 (p_ (choosePivot aD d a b).2),.ov 49 nb (ar aB d)]:=by
 refine ic 0 nb _ _ _ ?_
 unfold eg choosePivot
 have et:((b:Int) - a).tdiv 4=(((b - a)/4:Nat):Int):=by rw[←ua];congr 1;omega
 obtain⟨q,hq⟩:∃ q,q=(b - a)/4:=⟨_,rfl⟩
 dsimp only
 rw[←hq]at et⊢
 have e1:(a:Int)+(q:Int)*1=((a+q*1:Nat):Int):=by omega
 have e2:(a:Int)+(q:Int)*2=((a+q*2:Nat):Int):=by omega
 have e3:(a:Int)+(q:Int)*3=((a+q*3:Nat):Int):=by omega
 have AJ:∀ (x c:Nat) (l:List D),(bif decide ((c:Int)=0)then some [D.int .i64 x,D.int .i64 1,D.ov 49 nb l]else bif decide ((c:Int)=12)then some [D.int .i64 x,D.int .i64 2,D.ov 49 nb l]else some [D.int .i64 x,D.int .i64 0,D.ov 49 nb l])=some [D.int .i64 x,D.int .i64 (p_ (if c=0 then Hint.increasing else if c=12 then Hint.decreasing else Hint.unknown)),D.ov 49 nb l]:=fun x c l=>by
  by_cases h0:c=0
  ·subst h0;rfl
  ·by_cases h1:c=12
   ·subst h1;rfl
   ·rw[if_neg h0,if_neg h1,cn (by omega),cn (by omega)];rfl
 by_cases h8:8≤b - a
 ·rw[if_pos h8]
  by_cases h50:50≤b - a
  ·rw[if_pos h50]
   have o1:=vw nb hN d hd (a+q*1) 0 (by omega) (by omega) (by omega)
   have m1:=medianAdjacent_mem aD d (a+q*1) 0
   have c1:=medianAdjacent_count (lt:=aD) d (a+q*1) 0
   generalize medianAdjacent aD d (a+q*1) 0=r1 at*
   have o2:=vw nb hN d hd (a+q*2) r1.2 (by omega) (by omega) (by omega)
   have m2:=medianAdjacent_mem aD d (a+q*2) r1.2
   have c2:=medianAdjacent_count (lt:=aD) d (a+q*2) r1.2
   generalize medianAdjacent aD d (a+q*2) r1.2=r2 at*
   have o3:=vw nb hN d hd (a+q*3) r2.2 (by omega) (by omega) (by omega)
   have m3:=medianAdjacent_mem aD d (a+q*3) r2.2
   have c3:=medianAdjacent_count (lt:=aD) d (a+q*3) r2.2
   generalize medianAdjacent aD d (a+q*3) r2.2=r3 at*
   have o4:=yZ nb hN d hd r1.1 r2.1 r3.1 r3.2 (by omega) (by omega) (by omega) (by omega)
   generalize median aD d r1.1 r2.1 r3.1 r3.2=r4 at*
   clear m1 c1 m2 c2 m3 c3
   rw[show ((0:Nat):Int)=0 from rfl]at o1
   simp (disch:=omega) only[ay,enc,et,e1,e2,e3,o1,o2,o3,o4,AJ]
  ·rw[if_neg h50]
   have o4:=yZ nb hN d hd (a+q*1) (a+q*2) (a+q*3) 0 (by omega) (by omega) (by omega) (by omega)
   generalize median aD d (a+q*1) (a+q*2) (a+q*3) 0=r4 at*
   rw[show ((0:Nat):Int)=0 from rfl]at o4
   simp (disch:=omega) only[ay,enc,et,e1,e2,e3,o4,AJ]
 ·rw[if_neg h8]
  simp (disch:=omega) only[ay,enc,et,e1,e2,e3]
  rfl
end
end Go.Proofs.Ytkfnkiejikhglaa.Own
namespace Go.Proofs.Ytkfnkiejikhglaa.Own
open Go Go.Proofs.Ytkfnkiejikhglaa.GD Go.Sort
set_option maxHeartbeats 1000000
theorem Ew:ab.HW=ab.b3:=rfl
section
variable (nb:Bool) {N:Nat} (hN:N<65536)
include hN
theorem ns {K:Nat} (l:List D) (hl:l.length=N) (a b:Nat) (jC:a+8≤b) (hb:b≤N) (idx:Nat) (h1:idx≤a+(b - a)/4*2+1) (st:UInt64×Array Er) (hd:st.2.size=N) (again:List D→Option (List D)):
  az.b0 (Cl ty tab) K l a b [.int .u64 ((1<<<bitsLen (b - a):Nat):Int)] [.int .i64 idx,.ov 49 nb (ar aB st.2),.pv [.int .u64 (st.1.toNat:Nat)]] again=
   again [.int .i64 ((idx+1:Nat):Int),.ov 49 nb (ar aB (breakStep a (b - a) (1<<<bitsLen (b - a)) st idx).2),.pv [.int .u64 ((breakStep a (b - a) (1<<<bitsLen (b - a)) st idx).1.toNat:Nat)]]:=by
 unfold az.b0 az.j0
 have et:((b:Int) - a).tdiv 4=(((b - a)/4:Nat):Int):=by rw[←ua];congr 1;omega
 have Kb:1≤1<<<bitsLen (b - a):=by rw[Nat.shiftLeft_eq];have:=Nat.two_pow_pos (bitsLen (b - a));omega
 have IZ:1<<<bitsLen (b - a)≤2*(b - a):=by rw[Nat.shiftLeft_eq,Nat.one_mul];exact two_pow_bitsLen_le (by omega)
 unfold breakStep
 dsimp only
 have hr:(xorNext st.1).toNat<18446744073709551616:=(xorNext st.1).toNat_lt
 have ho:(xorNext st.1).toNat&&&(1<<<bitsLen (b - a) - 1)≤1<<<bitsLen (b - a) - 1:=Nat.and_le_right
 have hx:=Gn st.1
 generalize 1<<<bitsLen (b - a)=m at*
 have hw:IntKind.u64.wrap ((m:Int) - 1)=((m - 1:Nat):Int):=by rw[sy (by omega) (by omega)];omega
 have ha:=Ka hr (show m - 1<18446744073709551616 by omega)
 generalize (xorNext st.1).toNat=r at*
 generalize r&&&(m - 1)=o at*
 have gi:=aX aB (d:=st.2) (i:=idx) (by omega)
 rw[show ((idx+1:Nat):Int)=(idx:Int)+1 by omega]
 by_cases c:b - a≤o
 ·rw[if_pos c]
  have e1:((a:Int)+((o:Int) - ((b:Int) - a))).toNat=a+(o - (b - a)):=by omega
  have gj:=aX aB (d:=st.2) (i:=a+(o - (b - a))) (by omega)
  simp (disch:=omega) only[ay,enc,hl,et,hx,hw,ha,gi,gj,e1,db]
 ·rw[if_neg c]
  have e1:((a:Int)+(o:Int)).toNat=a+o:=by omega
  have gj:=aX aB (d:=st.2) (i:=a+o) (by omega)
  simp (disch:=omega) only[ay,enc,hl,et,hx,hw,ha,gi,gj,e1,db]
theorem Gr (d:Array Er) (hd:d.size=N) (a b:Nat) (jC:a<b) (hb:b≤N):Cl ty tab 119 [.ov 49 nb (ar aB d),.int .i64 a,.int .i64 b,.fn 102 [.rp [.fn 81 []] 0]]=some [.ov 49 nb (ar aB (breakPatterns d a b))]:=by
 refine gv 4 nb _ _ _ ?_
 unfold az breakPatterns
 have hl:(ar aB d).length=N:=by rw[cG];exact hd
 have et:((b:Int) - a).tdiv 4=(((b - a)/4:Nat):Int):=by rw[←ua];congr 1;omega
 dsimp only
 by_cases c:8≤b - a
 ·rw[if_pos c]
  have hp:=Et (b - a) (by omega)
  rw[show ((b - a:Nat):Int)=(b:Int) - a by omega]at hp
  have hw:IntKind.u64.wrap ((b:Int) - a)=((UInt64.ofNat (b - a)).toNat:Nat):=by
   rw[sy (by omega) (by omega),UInt64.toNat_ofNat',Nat.mod_eq_of_lt (by omega)];omega
  have ei:(a:Int)+(((b - a)/4:Nat):Int)*2 - 1=((a+(b - a)/4*2 - 1:Nat):Int):=by omega
  obtain⟨i0,hi0⟩:∃ i0,i0=a+(b - a)/4*2 - 1:=⟨_,rfl⟩
  have sz:∀ (st:UInt64×Array Er) (i:Nat),(breakStep a (b - a) (1<<<bitsLen (b - a)) st i).2.size=st.2.size:=fun st i=>by unfold breakStep;rw[cS]
  have s1:=fun ag=>ns nb hN (K:=4) (ar aB d) hl a b (by omega) hb i0 (by omega) (UInt64.ofNat (b - a),d) hd ag
  have s2:=fun ag=>ns nb hN (K:=4) (ar aB d) hl a b (by omega) hb (i0+1) (by omega) (breakStep a (b - a) (1<<<bitsLen (b - a)) (UInt64.ofNat (b - a),d) i0) (by rw[sz];exact hd) ag
  have s3:=fun ag=>ns nb hN (K:=4) (ar aB d) hl a b (by omega) hb (i0+1+1) (by omega) (breakStep a (b - a) (1<<<bitsLen (b - a)) (breakStep a (b - a) (1<<<bitsLen (b - a)) (UInt64.ofNat (b - a),d) i0) (i0+1)) (by rw[sz,sz];exact hd) ag
  have s4:∀ (st:UInt64×Array Er) (ag:List D→Option (List D)),az.b0 (Cl ty tab) 4 (ar aB d) a b [.int .u64 ((1<<<bitsLen (b - a):Nat):Int)] [.int .i64 ((i0+1+1+1:Nat):Int),.ov 49 nb (ar aB st.2),.pv [.int .u64 (st.1.toNat:Nat)]] ag=some [.ov 49 nb (ar aB st.2)]:=fun st ag=>by
   unfold az.b0 az.j0
   simp (disch:=omega) only[ay,enc,et]
  simp (disch:=omega) only[ay,enc,et,ei,hp,hw]
  rw[←hi0]
  simp only[iter]
  rw[s1,s2,s3,s4]
 ·rw[if_neg c]
  simp (disch:=omega) only[ay,enc]
theorem Ae {K:Nat} (k:Nat) (l:List D) (hl:l.length=N) (b:Nat) (hb:b≤N) (i:Int) (s:Nat) (hs:s<100) (lT:List D→Option (List D)) (ae av:List D) (hv1:∃ x y,ae=x:: .int .i64 (s:Int)::y) (Ey:∃ y,av= .int .i64 i::y) (j:Nat) (hj:1≤j) (ME:j≤b) (d:Array Er) (hd:d.size=N) (hk:b<k+j):
  iter k (ab.b3 (Cl ty tab) K l b lT ae av) [.int .i64 j,.ov 49 nb (ar aB d)]=lT [.int .i64 i,.int .i64 ((s+1:Nat):Int),.ov 49 nb (ar aB (shiftUp aD b j d))]:=by
 obtain⟨x,y,rfl⟩:=hv1
 obtain⟨z,rfl⟩:=Ey
 refine bk (R:=List D) (fun s:Nat×Array Er=>[.int .i64 s.1,.ov 49 nb (ar aB s.2)]) (fun t=>lT [.int .i64 i,.int .i64 ((s+1:Nat):Int),.ov 49 nb (ar aB (shiftUp aD b t.1 t.2))]) (fun s=>b - s.1) (fun s=>1≤s.1∧s.1≤b∧s.2.size=N) (fun t ht ag ih=> ?_) k (j,d) ⟨hj,ME,hd⟩ (by dsimp only;omega)
 obtain⟨j,d⟩:=t
 obtain⟨h1,h2,h3⟩:=ht
 dsimp only at h1 h2 h3 ih⊢
 unfold ab.b3
 rw[show ((s+1:Nat):Int)=(s:Int)+1 by omega]
 rcases Nat.lt_or_ge j b with c |c
 ·have g1:=aX aB (d:=d) (i:=j) (by omega)
  have g2:=aX aB (d:=d) (i:=j - 1) (by omega)
  cases hl2:aD d[j]! d[j - 1]!
  ·rw[sv aD hl2]
   simp (disch:=omega) only[ay,enc,hl,g1,g2,ba,hl2]
  ·rw[p9 aD c hl2]
   have b9:=ih (j+1,swp d j (j - 1)) ⟨by dsimp only;omega,by dsimp only;omega,by dsimp only;rw[cS];exact h3⟩ (by dsimp only;omega)
   dsimp only at b9
   rw[show ((j+1:Nat):Int)=(j:Int)+1 by omega,show ((s+1:Nat):Int)=(s:Int)+1 by omega]at b9
   clear ih
   simp (disch:=omega) only[ay,enc,hl,g1,g2,ba,hl2,db]
   exact b9
 ·rw[lS aD c]
  simp (disch:=omega) only[ay,enc,hl]
theorem Ez {K:Nat} (k:Nat) (l:List D) (hl:l.length=N) (b:Nat) (hb:b≤N) (hK:N<K) (i:Nat) (hi:i<b) (s:Nat) (hs:s<100) (lT:List D→Option (List D)) (ae av:List D) (hv1:∃ x y,ae=x:: .int .i64 (s:Int)::y) (Ey:∃ y,av= .int .i64 (i:Int)::y) (j:Nat) (hj:j<N) (d:Array Er) (hd:d.size=N) (hk:j<k):
  iter k (ab.b2 (Cl ty tab) K l b lT ae av) [.int .i64 j,.ov 49 nb (ar aB d)]=lT [.int .i64 i,.int .i64 ((s+1:Nat):Int),.ov 49 nb (ar aB (fixUp aD b i (shiftDown aD j d)))]:=by
 obtain⟨x,y,rfl⟩:=hv1
 obtain⟨z,rfl⟩:=Ey
 refine bk (R:=List D) (fun s:Nat×Array Er=>[.int .i64 s.1,.ov 49 nb (ar aB s.2)]) (fun t=>lT [.int .i64 i,.int .i64 ((s+1:Nat):Int),.ov 49 nb (ar aB (fixUp aD b i (shiftDown aD t.1 t.2)))]) (fun s=>s.1) (fun s=>s.1<N∧s.2.size=N) (fun t ht ag ih=> ?_) k (j,d) ⟨hj,hd⟩ hk
 obtain⟨j,d⟩:=t
 obtain⟨h1,h3⟩:=ht
 dsimp only at h1 h3 ih⊢
 have Gs:(bif decide ((2:Int)≤IntKind.i64.wrap ((b:Int) - i))then iter K (ab.b3 (Cl ty tab) K l b lT (x:: .int .i64 (s:Int)::y) (.int .i64 (i:Int)::z)) [.int .i64 (IntKind.i64.wrap ((i:Int)+1)),.ov 49 nb (ar aB d)]else lT [.int .i64 i,.int .i64 (IntKind.i64.wrap ((s:Int)+1)),.ov 49 nb (ar aB d)])=lT [.int .i64 i,.int .i64 ((s+1:Nat):Int),.ov 49 nb (ar aB (fixUp aD b i d))]:=by
  unfold fixUp
  by_cases c:2≤b - i
  ·have hu:=Ae nb hN (K:=K) K l hl b hb i s hs lT (x:: .int .i64 (s:Int)::y) (.int .i64 (i:Int)::z) ⟨_,_,rfl⟩ ⟨_,rfl⟩ (i+1) (by omega) (by omega) d h3 (by omega)
   rw[show ((i+1:Nat):Int)=(i:Int)+1 by omega]at hu
   rw[if_pos c]
   simp (disch:=omega) only[ay,enc,hu]
  ·rw[if_neg c,show ((s+1:Nat):Int)=(s:Int)+1 by omega]
   simp (disch:=omega) only[ay,enc]
 unfold ab.b2 ab.j0
 rcases Nat.lt_or_ge 0 j with c |c
 ·have g1:=aX aB (d:=d) (i:=j) (by omega)
  have g2:=aX aB (d:=d) (i:=j - 1) (by omega)
  cases hl2:aD d[j]! d[j - 1]!
  ·rw[vq aD hl2,←Gs]
   simp (disch:=omega) only[ay,enc,hl,g1,g2,ba,hl2]
  ·rw[sV aD c hl2]
   have b9:=ih (j - 1,swp d j (j - 1)) ⟨by dsimp only;omega,by dsimp only;rw[cS];exact h3⟩ (by dsimp only;omega)
   dsimp only at b9
   rw[show ((j - 1:Nat):Int)=(j:Int) - 1 by omega]at b9
   clear ih Gs
   rw[←b9]
   simp (disch:=omega) only[ay,enc,hl,g1,g2,ba,hl2,db]
 ·obtain rfl:j=0:=by omega
  rw[show shiftDown aD 0 d=d from rfl,←Gs]
  simp (disch:=omega) only[ay,enc,hl]
theorem Di {K:Nat} (k:Nat) (l:List D) (hl:l.length=N) (a b:Nat) (jC:a<b) (hb:b≤N) (hK:N<K) (s:Nat) (hs:s<100) (lT:List D→Option (List D)) (ae:List D) (hv1:∃ x y,ae=x:: .int .i64 (s:Int)::y) (d:Array Er) (hd:d.size=N) (i:Nat) (hi:a<i) (Kc:i≤b) (hk:b<k+i):
  iter k (ab.b1 (Cl ty tab) K l a b lT ae) [.int .i64 i,.ov 49 nb (ar aB d)]=
   if scanSorted aD d b i=b then some [.bool true,.ov 49 nb (ar aB d)]else if b - a<50 then some [.bool false,.ov 49 nb (ar aB d)]else
    lT [.int .i64 (scanSorted aD d b i:Nat),.int .i64 ((s+1:Nat):Int),.ov 49 nb (ar aB (fixUp aD b (scanSorted aD d b i) (fixDown aD a (scanSorted aD d b i) (swp d (scanSorted aD d b i) (scanSorted aD d b i - 1)))))]:=by
 obtain⟨x,y,rfl⟩:=hv1
 refine bk (R:=List D) (fun t:Nat=>[.int .i64 t,.ov 49 nb (ar aB d)]) (fun t=>if scanSorted aD d b t=b then some [.bool true,.ov 49 nb (ar aB d)]else if b - a<50 then some [.bool false,.ov 49 nb (ar aB d)]else
    lT [.int .i64 (scanSorted aD d b t:Nat),.int .i64 ((s+1:Nat):Int),.ov 49 nb (ar aB (fixUp aD b (scanSorted aD d b t) (fixDown aD a (scanSorted aD d b t) (swp d (scanSorted aD d b t) (scanSorted aD d b t - 1)))))]) (fun t=>b - t) (fun t=>a<t∧t≤b) (fun i hi ag ih=> ?_) k i ⟨hi,Kc⟩ (by omega)
 obtain⟨h1,h2⟩:=hi
 unfold ab.b1 ab.j1
 rcases Nat.lt_or_ge i b with c |c
 ·have g1:=aX aB (d:=d) (i:=i) (by omega)
  have g2:=aX aB (d:=d) (i:=i - 1) (by omega)
  cases hl2:aD d[i]! d[i - 1]!
  ·have b9:=ih (i+1) ⟨by omega,by omega⟩ (by omega)
   rw[←lQ aD c hl2,show ((i+1:Nat):Int)=(i:Int)+1 by omega]at b9
   rw[←b9]
   clear ih b9
   simp (disch:=omega) only[ay,enc,hl,g1,g2,ba,hl2]
  ·rw[mV aD hl2,if_neg (show¬i=b by omega)]
   clear ih
   by_cases Ic:b - a<50
   ·rw[if_pos Ic]
    simp (disch:=omega) only[ay,enc,hl,g1,g2,ba,hl2]
   ·rw[if_neg Ic]
    have sz:(swp d i (i - 1)).size=N:=by rw[cS];exact hd
    unfold fixDown
    by_cases c2:2≤i - a
    ·have Kd:=Ez nb hN (K:=K) K l hl b hb hK i c s hs lT (x:: .int .i64 (s:Int)::y) [.int .i64 i,.ov 49 nb (ar aB d)] ⟨_,_,rfl⟩ ⟨_,rfl⟩ (i - 1) (by omega) (swp d i (i - 1)) sz (by omega)
     rw[show ((i - 1:Nat):Int)=(i:Int) - 1 by omega]at Kd
     rw[if_pos c2,←Kd]
     clear Kd
     simp (disch:=omega) only[ay,enc,hl,g1,g2,ba,hl2,db]
    ·rw[if_neg c2]
     unfold fixUp
     by_cases c3:2≤b - i
     ·have hu:=Ae nb hN (K:=K) K l hl b hb i s hs lT (x:: .int .i64 (s:Int)::y) [.int .i64 i,.ov 49 nb (ar aB d)] ⟨_,_,rfl⟩ ⟨_,rfl⟩ (i+1) (by omega) (by omega) (swp d i (i - 1)) sz (by omega)
      rw[show ((i+1:Nat):Int)=(i:Int)+1 by omega]at hu
      rw[if_pos c3,←hu,←Ew]
      clear hu
      simp (disch:=omega) only[ay,enc,hl,g1,g2,ba,hl2,db]
     ·omega
 ·obtain rfl:i=b:=by omega
  rw[iQ aD (Nat.le_refl _),if_pos rfl]
  clear ih
  simp (disch:=omega) only[ay,enc,hl]
theorem EA (d:Array Er) (hd:d.size=N) (a b:Nat) (jC:a<b) (hb:b≤N):Cl ty tab 122 [.ov 49 nb (ar aB d),.int .i64 a,.int .i64 b,.fn 102 [.rp [.fn 81 []] 0]]=some [.bool (partialInsertionSort aD d a b).2,.ov 49 nb (ar aB (partialInsertionSort aD d a b).1)]:=by
 refine er (N+7) nb _ _ _ ?_
 unfold ab partialInsertionSort
 have hl:(ar aB d).length=N:=by rw[cG];exact hd
 have:=bk (R:=List D) (F:=ab.b0 (Cl ty tab) (N+7) (ar aB d) a b) (fun s:Nat×Nat×Array Er=>[.int .i64 s.1,.int .i64 s.2.1,.ov 49 nb (ar aB s.2.2)]) (fun s=>some [.bool (partialIns aD a b (5 - s.2.1) s.1 s.2.2).2,.ov 49 nb (ar aB (partialIns aD a b (5 - s.2.1) s.1 s.2.2).1)]) (fun s=>5 - s.2.1) (fun s=>s.2.2.size=N∧s.2.1≤5∧a<s.1∧s.1≤b) (fun s hs ag ih=> ?_) (N+7) (a+1,0,d) ⟨hd,by dsimp only;omega,by dsimp only;omega,by dsimp only;omega⟩ (by dsimp only;omega)
 ·dsimp only at this
  rw[show ((a+1:Nat):Int)=(a:Int)+1 by omega]at this
  simp (disch:=omega) only[ay,enc]
  exact this
 ·obtain⟨i,s,d'⟩:=s
  obtain⟨h1,h2,h3,h4⟩:=hs
  dsimp only at h1 h2 h3 h4 ih⊢
  unfold ab.b0
  by_cases c:s<5
  ·have hp:=Di nb hN (K:=N+7) (N+7) (ar aB d) hl a b jC hb (by omega) s (by omega) ag [.int .i64 i,.int .i64 s,.ov 49 nb (ar aB d')] ⟨_,_,rfl⟩ d' h1 i h3 h4 (by omega)
   rw[show 5 - s=(5 - (s+1))+1 by omega,partialIns_succ]
   have hle:=mW aD d' b _ i (Nat.le_refl _) h4
   generalize scanSorted aD d' b i=i2 at*
   by_cases cb:i2=b
   ·rw[if_pos cb]at hp⊢
    simp (disch:=omega) only[ay,enc,hp]
   ·rw[if_neg cb]at hp⊢
    by_cases Ic:b - a<50
    ·rw[if_pos Ic]at hp⊢
     simp (disch:=omega) only[ay,enc,hp]
    ·rw[if_neg Ic]at hp⊢
     have b9:=ih (i2,s+1,fixUp aD b i2 (fixDown aD a i2 (swp d' i2 (i2 - 1)))) ⟨by
         dsimp only
         unfold fixUp fixDown
         split<;>split<;>simp only[sw aD _ _ _ _ (Nat.le_refl _),oB,cS,h1],by dsimp only;omega,by dsimp only;omega,by dsimp only;omega⟩ (by dsimp only;omega)
     dsimp only at b9
     rw[b9]at hp
     clear ih b9
     simp (disch:=omega) only[ay,enc,hp]
  ·obtain rfl:s=5:=by omega
   clear ih
   simp (disch:=omega) only[ay,enc]
   rfl
end
end Go.Proofs.Ytkfnkiejikhglaa.Own
namespace Go.Proofs.Ytkfnkiejikhglaa.Own
open Go Go.Proofs.Ytkfnkiejikhglaa.GD Go.Sort
set_option maxHeartbeats 1000000
section
variable (nb:Bool) {N:Nat} (hN:N<65536)
include hN
theorem Dj {K:Nat} (k:Nat) (l:List D) (hl:l.length=N) (a i:Nat) (ha:a<i) (hi:i≤N) (lT:List D→Option (List D)) (av:List D) (Ey:∃ y,av= .int .i64 (i:Int)::y) (d:Array Er) (hd:d.size=N) (j:Nat) (hj:j<N) (hij:i≤j+2) (hk:j<k):
  iter k (ao.b2 (Cl ty tab) K l a lT av) [.int .i64 j,.ov 49 nb (ar aB d)]=
   if i>scanDown (fun x=>aD d[a]! x) d i j then some [.int .i64 i,.ov 49 nb (ar aB d)]else
    lT [.int .i64 ((i+1:Nat):Int),.int .i64 ((scanDown (fun x=>aD d[a]! x) d i j - 1:Nat):Int),.ov 49 nb (ar aB (swp d i (scanDown (fun x=>aD d[a]! x) d i j)))]:=by
 obtain⟨z,rfl⟩:=Ey
 refine bk (R:=List D) (fun t:Nat=>[.int .i64 t,.ov 49 nb (ar aB d)]) (fun t=>if i>scanDown (fun x=>aD d[a]! x) d i t then some [.int .i64 i,.ov 49 nb (ar aB d)]else
    lT [.int .i64 ((i+1:Nat):Int),.int .i64 ((scanDown (fun x=>aD d[a]! x) d i t - 1:Nat):Int),.ov 49 nb (ar aB (swp d i (scanDown (fun x=>aD d[a]! x) d i t)))]) (fun t=>t) (fun t=>t<N∧i≤t+2) (fun j hj ag ih=> ?_) k j ⟨hj,hij⟩ hk
 obtain⟨h1,h2⟩:=hj
 unfold ao.b2 ao.j0
 rcases Nat.lt_or_ge j i with c |c
 ·rw[kq c,if_pos c]
  clear ih
  simp (disch:=omega) only[ay,enc,hl]
 ·have g1:=aX aB (d:=d) (i:=a) (by omega)
  have g2:=aX aB (d:=d) (i:=j) (by omega)
  have g3:=aX aB (d:=d) (i:=i) (by omega)
  cases hp:aD d[a]! d[j]!
  ·rw[lP (p:=fun x=>aD d[a]! x) hp,if_neg (show¬i>j by omega)]
   clear ih
   rw[show ((i+1:Nat):Int)=(i:Int)+1 by omega,show ((j - 1:Nat):Int)=(j:Int) - 1 by omega]
   simp (disch:=omega) only[ay,enc,hl,g1,g2,g3,ba,hp,db]
  ·have b9:=ih (j - 1) ⟨by omega,by omega⟩ (by omega)
   rw[←kp (p:=fun x=>aD d[a]! x) (by omega) c hp,show (((j - 1:Nat):Nat):Int)=(j:Int) - 1 by omega]at b9
   rw[←b9]
   clear ih b9
   simp (disch:=omega) only[ay,enc,hl,g1,g2,g3,ba,hp]
theorem Dl {K:Nat} (hK:N<K) (k:Nat) (l:List D) (hl:l.length=N) (a j:Nat) (hj:j<N) (lT:List D→Option (List D)) (ae:List D) (hv1:∃ x y,ae=x:: .int .i64 (j:Int)::y) (d:Array Er) (hd:d.size=N) (i:Nat) (hi:a<i) (hij:i≤j+2) (Ie:i≤N) (hk:j+1 - i<k):
  iter k (ao.b1 (Cl ty tab) K l a lT ae) [.int .i64 i,.ov 49 nb (ar aB d)]=
   if scanUp (fun x=> !aD d[a]! x) d j i>scanDown (fun x=>aD d[a]! x) d (scanUp (fun x=> !aD d[a]! x) d j i) j then some [.int .i64 (scanUp (fun x=> !aD d[a]! x) d j i:Nat),.ov 49 nb (ar aB d)]else
    lT [.int .i64 ((scanUp (fun x=> !aD d[a]! x) d j i+1:Nat):Int),.int .i64 ((scanDown (fun x=>aD d[a]! x) d (scanUp (fun x=> !aD d[a]! x) d j i) j - 1:Nat):Int),.ov 49 nb (ar aB (swp d (scanUp (fun x=> !aD d[a]! x) d j i) (scanDown (fun x=>aD d[a]! x) d (scanUp (fun x=> !aD d[a]! x) d j i) j)))]:=by
 obtain⟨x,y,rfl⟩:=hv1
 refine bk (R:=List D) (fun t:Nat=>[.int .i64 t,.ov 49 nb (ar aB d)]) (fun i=>if scanUp (fun x=> !aD d[a]! x) d j i>scanDown (fun x=>aD d[a]! x) d (scanUp (fun x=> !aD d[a]! x) d j i) j then some [.int .i64 (scanUp (fun x=> !aD d[a]! x) d j i:Nat),.ov 49 nb (ar aB d)]else
    lT [.int .i64 ((scanUp (fun x=> !aD d[a]! x) d j i+1:Nat):Int),.int .i64 ((scanDown (fun x=>aD d[a]! x) d (scanUp (fun x=> !aD d[a]! x) d j i) j - 1:Nat):Int),.ov 49 nb (ar aB (swp d (scanUp (fun x=> !aD d[a]! x) d j i) (scanDown (fun x=>aD d[a]! x) d (scanUp (fun x=> !aD d[a]! x) d j i) j)))]) (fun t=>j+1 - t) (fun t=>a<t∧t≤j+2∧t≤N) (fun i hi ag ih=> ?_) k i ⟨hi,hij,Ie⟩ (by omega)
 obtain⟨h1,h2,h3⟩:=hi
 have dn:=Dj nb hN (K:=K) K l hl a i h1 (by omega) lT [.int .i64 (i:Int),.ov 49 nb (ar aB d)] ⟨_,rfl⟩ d hd j hj h2 (by omega)
 unfold ao.b1 ao.j1
 rcases Nat.lt_or_ge j i with c |c
 ·rw[nr c,←dn]
  clear ih dn
  simp (disch:=omega) only[ay,enc,hl]
 ·have g1:=aX aB (d:=d) (i:=a) (by omega)
  have g2:=aX aB (d:=d) (i:=i) (by omega)
  cases hp:aD d[a]! d[i]!
  ·have b9:=ih (i+1) ⟨by omega,by omega,by omega⟩ (by omega)
   rw[←nq (p:=fun x=> !aD d[a]! x) c (by simp[hp]),show ((i+1:Nat):Int)=(i:Int)+1 by omega]at b9
   rw[←b9]
   clear ih b9 dn
   simp (disch:=omega) only[ay,enc,hl,g1,g2,ba,hp]
  ·rw[pm (p:=fun x=> !aD d[a]! x) (by simp[hp]),←dn]
   clear ih dn
   simp (disch:=omega) only[ay,enc,hl,g1,g2,ba,hp]
theorem Gt (d:Array Er) (hd:d.size=N) (a b p:Nat) (jC:a<b) (hb:b≤N) (E2:a≤p) (yd:p<b):Cl ty tab 123 [.ov 49 nb (ar aB d),.int .i64 a,.int .i64 b,.int .i64 p,.fn 102 [.rp [.fn 81 []] 0]]=some [.int .i64 ((partitionEqual aD d a b p).1:Nat),.ov 49 nb (ar aB (partitionEqual aD d a b p).2)]:=by
 refine fX (N+2) nb _ _ _ _ ?_
 unfold ao partitionEqual
 have hl:(ar aB d).length=N:=by rw[cG];exact hd
 have g1:=aX aB (d:=d) (i:=a) (by omega)
 have g2:=aX aB (d:=d) (i:=p) (by omega)
 have:=bk (R:=List D) (F:=ao.b0 (Cl ty tab) (N+2) (ar aB d) a) (fun s:Nat×Nat×Array Er=>[.int .i64 s.1,.int .i64 s.2.1,.ov 49 nb (ar aB s.2.2)]) (fun s=>some [.int .i64 ((partEqLoop aD a s.1 s.2.1 s.2.2).1:Nat),.ov 49 nb (ar aB (partEqLoop aD a s.1 s.2.1 s.2.2).2)]) (fun s=>s.2.1+1 - s.1) (fun s=>s.2.2.size=N∧a<s.1∧s.1≤s.2.1+2∧s.1≤N∧s.2.1<N) (fun s hs ag ih=> ?_) (N+2) (a+1,b - 1,swp d a p) ⟨by dsimp only;rw[cS];exact hd,by dsimp only;omega,by dsimp only;omega,by dsimp only;omega,by dsimp only;omega⟩ (by dsimp only;omega)
 ·dsimp only at this
  rw[show ((a+1:Nat):Int)=(a:Int)+1 by omega,show ((b - 1:Nat):Int)=(b:Int) - 1 by omega]at this
  simp (disch:=omega) only[ay,enc,hl,g1,g2,db]
  exact this
 ·obtain⟨i,j,d'⟩:=s
  obtain⟨h1,h2,h3,h5,h4⟩:=hs
  dsimp only at h1 h2 h3 h5 h4 ih⊢
  unfold ao.b0
  have up:=Dl nb hN (K:=N+2) (by omega) (N+2) (ar aB d) hl a j h4 ag [.int .i64 i,.int .i64 j,.ov 49 nb (ar aB d')] ⟨_,_,rfl⟩ d' h1 i h2 h3 h5 (by omega)
  rw[partEqLoop_eq]
  have s1:=scanUp_spec (fun x=> !aD d'[a]! x) d' j _ i rfl
  have s2:=scanDown_le (fun x=>aD d'[a]! x) d' (scanUp (fun x=> !aD d'[a]! x) d' j i) j
  have s3:=scanUp_ge (fun x=> !aD d'[a]! x) d' j i
  generalize scanUp (fun x=> !aD d'[a]! x) d' j i=i2 at*
  generalize scanDown (fun x=>aD d'[a]! x) d' i2 j=j2 at*
  by_cases c:i2>j2
  ·rw[if_pos c]at up⊢
   clear ih
   simp (disch:=omega) only[ay,enc,up]
  ·rw[if_neg c]at up⊢
   rw[ih (i2+1,j2 - 1,swp d' i2 j2) ⟨by dsimp only;rw[cS];exact h1,by dsimp only;omega,by dsimp only;omega,by dsimp only;omega,by dsimp only;omega⟩ (by dsimp only;omega)]at up
   clear ih
   simp (disch:=omega) only[ay,enc,up]
theorem Dm {K:Nat} (k:Nat) (l:List D) (hl:l.length=N) (a i:Nat) (ha:a<i) (hi:i≤N) (lT:List D→Option (List D)) (av:List D) (Ey:∃ y,av= .int .i64 (i:Int)::y) (d:Array Er) (hd:d.size=N) (j:Nat) (hj:j<N) (hij:i≤j+2) (hk:j<k):
  iter k (aj.b4 (Cl ty tab) K l a lT av) [.int .i64 j,.ov 49 nb (ar aB d)]=
   if i>scanDown (fun x=> !aD x d[a]!) d i j then some [.int .i64 (scanDown (fun x=> !aD x d[a]!) d i j:Nat),.bool false,.ov 49 nb (ar aB (swp d (scanDown (fun x=> !aD x d[a]!) d i j) a))]else
    lT [.int .i64 ((i+1:Nat):Int),.int .i64 ((scanDown (fun x=> !aD x d[a]!) d i j - 1:Nat):Int),.ov 49 nb (ar aB (swp d i (scanDown (fun x=> !aD x d[a]!) d i j)))]:=by
 obtain⟨z,rfl⟩:=Ey
 refine bk (R:=List D) (fun t:Nat=>[.int .i64 t,.ov 49 nb (ar aB d)]) (fun t=>if i>scanDown (fun x=> !aD x d[a]!) d i t then some [.int .i64 (scanDown (fun x=> !aD x d[a]!) d i t:Nat),.bool false,.ov 49 nb (ar aB (swp d (scanDown (fun x=> !aD x d[a]!) d i t) a))]else
    lT [.int .i64 ((i+1:Nat):Int),.int .i64 ((scanDown (fun x=> !aD x d[a]!) d i t - 1:Nat):Int),.ov 49 nb (ar aB (swp d i (scanDown (fun x=> !aD x d[a]!) d i t)))]) (fun t=>t) (fun t=>t<N∧i≤t+2) (fun j hj ag ih=> ?_) k j ⟨hj,hij⟩ hk
 obtain⟨h1,h2⟩:=hj
 have g1:=aX aB (d:=d) (i:=a) (by omega)
 have g2:=aX aB (d:=d) (i:=j) (by omega)
 unfold aj.b4 aj.j0
 rcases Nat.lt_or_ge j i with c |c
 ·rw[kq c,if_pos c]
  clear ih
  simp (disch:=omega) only[ay,enc,hl,g1,g2,db]
 ·have g3:=aX aB (d:=d) (i:=i) (by omega)
  cases hp:aD d[j]! d[a]!
  ·have b9:=ih (j - 1) ⟨by omega,by omega⟩ (by omega)
   rw[←kp (p:=fun x=> !aD x d[a]!) (by omega) c (by simp[hp]),show (((j - 1:Nat):Nat):Int)=(j:Int) - 1 by omega]at b9
   rw[←b9]
   clear ih b9
   simp (disch:=omega) only[ay,enc,hl,g1,g2,g3,ba,hp]
  ·rw[lP (p:=fun x=> !aD x d[a]!) (by simp[hp]),if_neg (show¬i>j by omega)]
   clear ih
   rw[show ((i+1:Nat):Int)=(i:Int)+1 by omega,show ((j - 1:Nat):Int)=(j:Int) - 1 by omega]
   simp (disch:=omega) only[ay,enc,hl,g1,g2,g3,ba,hp,db]
theorem Dn {K:Nat} (hK:N<K) (k:Nat) (l:List D) (hl:l.length=N) (a j:Nat) (hj:j<N) (lT:List D→Option (List D)) (ae:List D) (hv1:∃ x y,ae=x:: .int .i64 (j:Int)::y) (d:Array Er) (hd:d.size=N) (i:Nat) (hi:a<i) (hij:i≤j+2) (Ie:i≤N) (hk:j+1 - i<k):
  iter k (aj.b3 (Cl ty tab) K l a lT ae) [.int .i64 i,.ov 49 nb (ar aB d)]=
   if scanUp (fun x=>aD x d[a]!) d j i>scanDown (fun x=> !aD x d[a]!) d (scanUp (fun x=>aD x d[a]!) d j i) j then some [.int .i64 (scanDown (fun x=> !aD x d[a]!) d (scanUp (fun x=>aD x d[a]!) d j i) j:Nat),.bool false,.ov 49 nb (ar aB (swp d (scanDown (fun x=> !aD x d[a]!) d (scanUp (fun x=>aD x d[a]!) d j i) j) a))]else
    lT [.int .i64 ((scanUp (fun x=>aD x d[a]!) d j i+1:Nat):Int),.int .i64 ((scanDown (fun x=> !aD x d[a]!) d (scanUp (fun x=>aD x d[a]!) d j i) j - 1:Nat):Int),.ov 49 nb (ar aB (swp d (scanUp (fun x=>aD x d[a]!) d j i) (scanDown (fun x=> !aD x d[a]!) d (scanUp (fun x=>aD x d[a]!) d j i) j)))]:=by
 obtain⟨x,y,rfl⟩:=hv1
 refine bk (R:=List D) (fun t:Nat=>[.int .i64 t,.ov 49 nb (ar aB d)]) (fun i=>if scanUp (fun x=>aD x d[a]!) d j i>scanDown (fun x=> !aD x d[a]!) d (scanUp (fun x=>aD x d[a]!) d j i) j then some [.int .i64 (scanDown (fun x=> !aD x d[a]!) d (scanUp (fun x=>aD x d[a]!) d j i) j:Nat),.bool false,.ov 49 nb (ar aB (swp d (scanDown (fun x=> !aD x d[a]!) d (scanUp (fun x=>aD x d[a]!) d j i) j) a))]else
    lT [.int .i64 ((scanUp (fun x=>aD x d[a]!) d j i+1:Nat):Int),.int .i64 ((scanDown (fun x=> !aD x d[a]!) d (scanUp (fun x=>aD x d[a]!) d j i) j - 1:Nat):Int),.ov 49 nb (ar aB (swp d (scanUp (fun x=>aD x d[a]!) d j i) (scanDown (fun x=> !aD x d[a]!) d (scanUp (fun x=>aD x d[a]!) d j i) j)))]) (fun t=>j+1 - t) (fun t=>a<t∧t≤j+2∧t≤N) (fun i hi ag ih=> ?_) k i ⟨hi,hij,Ie⟩ (by omega)
 obtain⟨h1,h2,h3⟩:=hi
 have dn:=Dm nb hN (K:=K) K l hl a i h1 (by omega) lT [.int .i64 (i:Int),.ov 49 nb (ar aB d)] ⟨_,rfl⟩ d hd j hj h2 (by omega)
 unfold aj.b3 aj.j1
 rcases Nat.lt_or_ge j i with c |c
 ·rw[nr c,←dn]
  clear ih dn
  simp (disch:=omega) only[ay,enc,hl]
 ·have g1:=aX aB (d:=d) (i:=a) (by omega)
  have g2:=aX aB (d:=d) (i:=i) (by omega)
  cases hp:aD d[i]! d[a]!
  ·rw[pm (p:=fun x=>aD x d[a]!) hp,←dn]
   clear ih dn
   simp (disch:=omega) only[ay,enc,hl,g1,g2,ba,hp]
  ·have b9:=ih (i+1) ⟨by omega,by omega,by omega⟩ (by omega)
   rw[←nq (p:=fun x=>aD x d[a]!) c hp,show ((i+1:Nat):Int)=(i:Int)+1 by omega]at b9
   rw[←b9]
   clear ih b9 dn
   simp (disch:=omega) only[ay,enc,hl,g1,g2,ba,hp]
theorem y0 (l:List D) (hl:l.length=N) (a:Nat) (i j:Nat) (hi:a<i) (hij:i≤j+2) (Ie:i≤N) (hj:j<N) (d:Array Er) (hd:d.size=N):
  iter (N+2) (aj.b2 (Cl ty tab) (N+2) l a) [.int .i64 i,.int .i64 j,.ov 49 nb (ar aB d)]=some [.int .i64 ((partLoop aD a i j d).1:Nat),.bool false,.ov 49 nb (ar aB (swp (partLoop aD a i j d).2 (partLoop aD a i j d).1 a))]:=by
 refine bk (R:=List D) (fun s:Nat×Nat×Array Er=>[.int .i64 s.1,.int .i64 s.2.1,.ov 49 nb (ar aB s.2.2)]) (fun s=>some [.int .i64 ((partLoop aD a s.1 s.2.1 s.2.2).1:Nat),.bool false,.ov 49 nb (ar aB (swp (partLoop aD a s.1 s.2.1 s.2.2).2 (partLoop aD a s.1 s.2.1 s.2.2).1 a))]) (fun s=>s.2.1+1 - s.1) (fun s=>s.2.2.size=N∧a<s.1∧s.1≤s.2.1+2∧s.1≤N∧s.2.1<N) (fun s hs ag ih=> ?_) (N+2) (i,j,d) ⟨hd,hi,hij,Ie,hj⟩ (by dsimp only;omega)
 obtain⟨i,j,d'⟩:=s
 obtain⟨h1,h2,h3,h5,h4⟩:=hs
 dsimp only at h1 h2 h3 h5 h4 ih⊢
 unfold aj.b2
 have up:=Dn nb hN (K:=N+2) (by omega) (N+2) l hl a j h4 ag [.int .i64 i,.int .i64 j,.ov 49 nb (ar aB d')] ⟨_,_,rfl⟩ d' h1 i h2 h3 h5 (by omega)
 rw[partLoop_eq]
 have s1:=scanUp_spec (fun x=>aD x d'[a]!) d' j _ i rfl
 have s2:=scanDown_le (fun x=> !aD x d'[a]!) d' (scanUp (fun x=>aD x d'[a]!) d' j i) j
 have s3:=scanUp_ge (fun x=>aD x d'[a]!) d' j i
 generalize scanUp (fun x=>aD x d'[a]!) d' j i=i2 at*
 generalize scanDown (fun x=> !aD x d'[a]!) d' i2 j=j2 at*
 by_cases c:i2>j2
 ·rw[if_pos c]at up⊢
  clear ih
  simp (disch:=omega) only[ay,enc,up]
 ·rw[if_neg c]at up⊢
  rw[ih (i2+1,j2 - 1,swp d' i2 j2) ⟨by dsimp only;rw[cS];exact h1,by dsimp only;omega,by dsimp only;omega,by dsimp only;omega,by dsimp only;omega⟩ (by dsimp only;omega)]at up
  clear ih
  simp (disch:=omega) only[ay,enc,up]
def xj (nb:Bool) (a i j:Nat) (d:Array Er):List D:=
 if i>j then [.int .i64 j,.bool true,.ov 49 nb (ar aB (swp d j a))]else
  [.int .i64 ((partLoop aD a (i+1) (j - 1) (swp d i j)).1:Nat),.bool false,.ov 49 nb (ar aB (swp (partLoop aD a (i+1) (j - 1) (swp d i j)).2 (partLoop aD a (i+1) (j - 1) (swp d i j)).1 a))]
theorem EB (k:Nat) (l:List D) (hl:l.length=N) (a i:Nat) (ha:a<i) (hi:i≤N) (av:List D) (Ey:∃ y,av= .int .i64 (i:Int)::y) (d:Array Er) (hd:d.size=N) (j:Nat) (hj:j<N) (hij:i≤j+2) (hk:j<k):
  iter k (aj.b1 (Cl ty tab) (N+2) l a av) [.int .i64 j,.ov 49 nb (ar aB d)]=some (xj nb a i (scanDown (fun x=> !aD x d[a]!) d i j) d):=by
 obtain⟨z,rfl⟩:=Ey
 refine bk (R:=List D) (fun t:Nat=>[.int .i64 t,.ov 49 nb (ar aB d)]) (fun t=>some (xj nb a i (scanDown (fun x=> !aD x d[a]!) d i t) d)) (fun t=>t) (fun t=>t<N∧i≤t+2) (fun j hj ag ih=> ?_) k j ⟨hj,hij⟩ hk
 obtain⟨h1,h2⟩:=hj
 have g1:=aX aB (d:=d) (i:=a) (by omega)
 have g2:=aX aB (d:=d) (i:=j) (by omega)
 unfold aj.b1 aj.j2
 rcases Nat.lt_or_ge j i with c |c
 ·rw[kq c]
  unfold xj
  rw[if_pos c]
  clear ih
  simp (disch:=omega) only[ay,enc,hl,g1,g2,db]
 ·have g3:=aX aB (d:=d) (i:=i) (by omega)
  cases hp:aD d[j]! d[a]!
  ·have b9:=ih (j - 1) ⟨by omega,by omega⟩ (by omega)
   rw[←kp (p:=fun x=> !aD x d[a]!) (by omega) c (by simp[hp]),show (((j - 1:Nat):Nat):Int)=(j:Int) - 1 by omega]at b9
   rw[←b9]
   clear ih b9
   simp (disch:=omega) only[ay,enc,hl,g1,g2,g3,ba,hp]
  ·rw[lP (p:=fun x=> !aD x d[a]!) (by simp[hp])]
   unfold xj
   rw[if_neg (show¬i>j by omega)]
   clear ih
   have pl:=y0 nb hN l hl a (i+1) (j - 1) (by omega) (by omega) (by omega) (by omega) (swp d i j) (by rw[cS];exact hd)
   rw[show ((i+1:Nat):Int)=(i:Int)+1 by omega,show ((j - 1:Nat):Int)=(j:Int) - 1 by omega]at pl
   simp (disch:=omega) only[ay,enc,hl,g1,g2,g3,ba,hp,db,pl]
theorem EC (k:Nat) (l:List D) (hl:l.length=N) (a b:Nat) (jC:a<b) (hb:b≤N) (d:Array Er) (hd:d.size=N) (i:Nat) (hi:a<i) (Kc:i≤b) (hk:b<k+i):
  iter k (aj.b0 (Cl ty tab) (N+2) l a b) [.int .i64 i,.ov 49 nb (ar aB d)]=some (xj nb a (scanUp (fun x=>aD x d[a]!) d (b - 1) i) (scanDown (fun x=> !aD x d[a]!) d (scanUp (fun x=>aD x d[a]!) d (b - 1) i) (b - 1)) d):=by
 refine bk (R:=List D) (fun t:Nat=>[.int .i64 t,.ov 49 nb (ar aB d)]) (fun i=>some (xj nb a (scanUp (fun x=>aD x d[a]!) d (b - 1) i) (scanDown (fun x=> !aD x d[a]!) d (scanUp (fun x=>aD x d[a]!) d (b - 1) i) (b - 1)) d)) (fun t=>b - t) (fun t=>a<t∧t≤b) (fun i hi ag ih=> ?_) k i ⟨hi,Kc⟩ (by omega)
 obtain⟨h1,h2⟩:=hi
 have dn:=EB nb hN (N+2) l hl a i h1 (by omega) [.int .i64 (i:Int),.ov 49 nb (ar aB d)] ⟨_,rfl⟩ d hd (b - 1) (by omega) (by omega) (by omega)
 rw[show ((b - 1:Nat):Int)=(b:Int) - 1 by omega]at dn
 unfold aj.b0 aj.j3
 rcases Nat.lt_or_ge (b - 1) i with c |c
 ·rw[nr c,←dn]
  clear ih dn
  simp (disch:=omega) only[ay,enc,hl]
 ·have g1:=aX aB (d:=d) (i:=a) (by omega)
  have g2:=aX aB (d:=d) (i:=i) (by omega)
  cases hp:aD d[i]! d[a]!
  ·rw[pm (p:=fun x=>aD x d[a]!) hp,←dn]
   clear ih dn
   simp (disch:=omega) only[ay,enc,hl,g1,g2,ba,hp]
  ·have b9:=ih (i+1) ⟨by omega,by omega⟩ (by omega)
   rw[←nq (p:=fun x=>aD x d[a]!) c hp,show ((i+1:Nat):Int)=(i:Int)+1 by omega]at b9
   rw[←b9]
   clear ih b9 dn
   simp (disch:=omega) only[ay,enc,hl,g1,g2,ba,hp]
theorem Do (d:Array Er) (hd:d.size=N) (a b p:Nat) (jC:a<b) (hb:b≤N) (E2:a≤p) (yd:p<b):Cl ty tab 124 [.ov 49 nb (ar aB d),.int .i64 a,.int .i64 b,.int .i64 p,.fn 102 [.rp [.fn 81 []] 0]]=some [.int .i64 ((partition aD d a b p).1:Nat),.bool (partition aD d a b p).2.1,.ov 49 nb (ar aB (partition aD d a b p).2.2)]:=by
 refine iW (N+2) nb _ _ _ _ ?_
 unfold aj
 have hl:(ar aB d).length=N:=by rw[cG];exact hd
 have g1:=aX aB (d:=d) (i:=a) (by omega)
 have g2:=aX aB (d:=d) (i:=p) (by omega)
 have e:[D.int .i64 ((partition aD d a b p).1:Nat),.bool (partition aD d a b p).2.1,.ov 49 nb (ar aB (partition aD d a b p).2.2)]=xj nb a (scanUp (fun x=>aD x (swp d a p)[a]!) (swp d a p) (b - 1) (a+1)) (scanDown (fun x=> !aD x (swp d a p)[a]!) (swp d a p) (scanUp (fun x=>aD x (swp d a p)[a]!) (swp d a p) (b - 1) (a+1)) (b - 1)) (swp d a p):=by
  unfold partition xj
  dsimp only
  split<;>rfl
 rw[e]
 have MF:(swp d a p).size=N:=by rw[cS];exact hd
 have p0:=EC nb hN (N+2) (ar aB d) hl a b jC hb (swp d a p) MF (a+1) (by omega) (by omega) (by omega)
 rw[show ((a+1:Nat):Int)=(a:Int)+1 by omega]at p0
 simp (disch:=omega) only[ay,enc,hl,g1,g2,db]
 exact p0
end
end Go.Proofs.Ytkfnkiejikhglaa.Own
namespace Go.Proofs.Ytkfnkiejikhglaa.Own
open Go Go.Proofs.Ytkfnkiejikhglaa.GD Go.Sort
set_option maxHeartbeats 1000000
theorem Bx (h:Hint):(p_ h==1)=decide (h=Hint.increasing):=by cases h<;>rfl
theorem Bz (h:Hint):(p_ h==2)=decide (h=Hint.decreasing):=by cases h<;>rfl
section
variable (nb:Bool) {N:Nat} (hN:N<65536) {l:List D} (hl:l.length=N) {a b:Nat} (jC:a+12<b) (hb:b≤N) (ag:List D→Option (List D)) (l0:Nat) (wb wp:Bool) (x:D)
include hN hl jC hb
theorem I0 (d:Array Er) (hd:d.size=N) (h0:l0≠0) (h1:l0<1000):
  ak.b0 (Cl ty tab) (N+2) l [.int .i64 a,.int .i64 b,.int .i64 l0,.bool wb,.bool wp,.ov 49 nb (ar aB d)] ag=
   ak.j3 (Cl ty tab) (N+2) l ag [.int .i64 a,.int .i64 b,.int .i64 l0,.bool wb,.bool wp,.ov 49 nb (ar aB d)] ((if _h:(!wb)=true then l0 - 1 else l0:Nat):Int) nb (ar aB (if _h:(!wb)=true then breakPatterns d a b else d)):=by
 unfold ak.b0
 have e:=Gr nb hN d hd a b (by omega) hb
 cases wb
 ·rw[dif_pos (show (!false)=true from rfl),dif_pos (show (!false)=true from rfl),show ((l0 - 1:Nat):Int)=(l0:Int) - 1 by omega]
  simp (disch:=omega) only[ay,enc,e]
 ·rw[dif_neg (show¬(!true)=true by simp),dif_neg (show¬(!true)=true by simp)]
  simp (disch:=omega) only[ay,enc]
theorem I1 (d:Array Er) (hd:d.size=N) (xk:Int):
  ak.j3 (Cl ty tab) (N+2) l ag [.int .i64 a,.int .i64 b,.int .i64 l0,.bool wb,.bool wp,x] xk nb (ar aB d)=
   ak.j2 (Cl ty tab) (N+2) l ag [.int .i64 a,.int .i64 b,.int .i64 l0,.bool wb,.bool wp,x] xk ((if _h:(choosePivot aD d a b).2=Hint.decreasing then (b - 1) - ((choosePivot aD d a b).1 - a)else (choosePivot aD d a b).1:Nat):Int)
    (p_ (if _h:(choosePivot aD d a b).2=Hint.decreasing then Hint.increasing else (choosePivot aD d a b).2)) nb (ar aB (if _h:(choosePivot aD d a b).2=Hint.decreasing then reverseRange d a b else d)):=by
 unfold ak.j3
 have e:=Gq nb hN d hd a b (by omega) hb
 have e2:=Gp nb hN d hd a b (by omega) hb
 have hc:=choosePivot_holds aD d a b (by omega)
 generalize choosePivot aD d a b=c at*
 obtain⟨c1,c2⟩:=c
 dsimp only at e hc⊢
 by_cases h:c2=Hint.decreasing
 ·subst h
  rw[dif_pos rfl,dif_pos rfl,dif_pos rfl,show ((b - 1 - (c1 - a):Nat):Int)=(b:Int) - 1 - ((c1:Int) - a)by omega]
  simp only[p_]at e⊢
  simp (disch:=omega) only[ay,enc,e,e2]
 ·rw[dif_neg h,dif_neg h,dif_neg h]
  have hn:(p_ c2==2)=false:=by rw[Bz];simp[h]
  simp (disch:=omega) only[enc,JY,e,Option.bind_some,List.getD_cons_zero,List.getD_cons_succ,wP,Fl,hn,cf,Fm,CY]
theorem I2 (d:Array Er) (hd:d.size=N) (xk p:Int) (h:Hint):
  ak.j2 (Cl ty tab) (N+2) l ag [.int .i64 a,.int .i64 b,.int .i64 l0,.bool wb,.bool wp,x] xk p (p_ h) nb (ar aB d)=
   if (if _h:(wb&&wp&&decide (h=Hint.increasing))=true then partialInsertionSort aD d a b else (d,false)).2=true then some [.ov 49 nb (ar aB (if _h:(wb&&wp&&decide (h=Hint.increasing))=true then partialInsertionSort aD d a b else (d,false)).1)]else
    ak.j1 (Cl ty tab) (N+2) l ag [.int .i64 a,.int .i64 b,.int .i64 l0,.bool wb,.bool wp,x] xk p nb (ar aB (if _h:(wb&&wp&&decide (h=Hint.increasing))=true then partialInsertionSort aD d a b else (d,false)).1):=by
 unfold ak.j2
 have e:=EA nb hN d hd a b (by omega) hb
 rw[Bx]
 generalize partialInsertionSort aD d a b=r at*
 obtain⟨r1,r2⟩:=r
 cases wb<;>cases wp<;>cases h<;>cases r2<;>simp[enc,JY,e,wP,Bp,Ga,Fm,CY,Fl]
theorem Ke (d:Array Er) (hd:d.size=N) (xk:Int) (p:Nat) (E2:a≤p) (yd:p<b):
  ak.j1 (Cl ty tab) (N+2) l ag [.int .i64 a,.int .i64 b,.int .i64 l0,.bool wb,.bool wp,x] xk p nb (ar aB d)=
   if (decide (a>0)&& !aD d[a - 1]! d[p]!)=true then ag [.int .i64 ((partitionEqual aD d a b p).1:Nat),.int .i64 b,.int .i64 xk,.bool wb,.bool wp,.ov 49 nb (ar aB (partitionEqual aD d a b p).2)]else
    ak.j0 (Cl ty tab) (N+2) ag [.int .i64 a,.int .i64 b,.int .i64 l0,.bool wb,.bool wp,x] xk p nb (ar aB d):=by
 unfold ak.j1
 have e:=Gt nb hN d hd a b p (by omega) hb E2 yd
 by_cases h0:0<a
 ·have g1:=aX aB (d:=d) (i:=a - 1) (by omega)
  have g2:=aX aB (d:=d) (i:=p) (by omega)
  cases hc:aD d[a - 1]! d[p]!
  ·rw[if_pos (show (decide (a>0)&& !false)=true by simp[h0])]
   simp (disch:=omega) only[ay,enc,hl,g1,g2,ba,hc,e]
  ·rw[if_neg (show¬(decide (a>0)&& !true)=true by simp)]
   simp (disch:=omega) only[ay,enc,hl,g1,g2,ba,hc,e]
 ·rw[if_neg (show¬(decide (a>0)&& !aD d[a - 1]! d[p]!)=true by simp[h0])]
  simp (disch:=omega) only[ay,enc,hl]
theorem Kf (d:Array Er) (hd:d.size=N) (xk:Nat) (p:Nat) (E2:a≤p) (yd:p<b) (mid:Nat) (ap:Bool) (d4 dL:Array Er) (hx:partition aD d a b p=(mid,ap,d4)) (Kb:a≤mid) (IZ:mid<b) (hlt:mid - a<b - mid)
  (hr:Cl ty tab 109 [.ov 49 nb (ar aB d4),.int .i64 a,.int .i64 mid,.int .i64 xk,.fn 102 [.rp [.fn 81 []] 0]]=some [.ov 49 nb (ar aB dL)]):
  ak.j0 (Cl ty tab) (N+2) ag [.int .i64 a,.int .i64 b,.int .i64 l0,.bool wb,.bool wp,x] xk p nb (ar aB d)=
   ag [.int .i64 ((mid+1:Nat):Int),.int .i64 b,.int .i64 xk,.bool (decide (mid - a≥(b - a)/8)),.bool ap,.ov 49 nb (ar aB dL)]:=by
 unfold ak.j0
 have e:=Do nb hN d hd a b p (by omega) hb E2 yd
 rw[hx]at e
 have et:((b:Int) - a).tdiv 8=(((b - a)/8:Nat):Int):=by rw[←ua];congr 1;omega
 have ed:decide ((((b - a)/8:Nat):Int)≤(mid:Int) - a)=decide (mid - a≥(b - a)/8):=by
  apply decide_eq_decide.2;omega
 rw[show ((mid+1:Nat):Int)=(mid:Int)+1 by omega]
 simp (disch:=omega) only[ay,enc,e,hr,et,ed]
theorem Kg (d:Array Er) (hd:d.size=N) (xk:Nat) (p:Nat) (E2:a≤p) (yd:p<b) (mid:Nat) (ap:Bool) (d4 dL:Array Er) (hx:partition aD d a b p=(mid,ap,d4)) (Kb:a≤mid) (IZ:mid<b) (hlt: ¬mid - a<b - mid)
  (hr:Cl ty tab 109 [.ov 49 nb (ar aB d4),.int .i64 ((mid+1:Nat):Int),.int .i64 b,.int .i64 xk,.fn 102 [.rp [.fn 81 []] 0]]=some [.ov 49 nb (ar aB dL)]):
  ak.j0 (Cl ty tab) (N+2) ag [.int .i64 a,.int .i64 b,.int .i64 l0,.bool wb,.bool wp,x] xk p nb (ar aB d)=
   ag [.int .i64 a,.int .i64 mid,.int .i64 xk,.bool (decide (b - mid≥(b - a)/8)),.bool ap,.ov 49 nb (ar aB dL)]:=by
 unfold ak.j0
 have e:=Do nb hN d hd a b p (by omega) hb E2 yd
 rw[hx]at e
 have et:((b:Int) - a).tdiv 8=(((b - a)/8:Nat):Int):=by rw[←ua];congr 1;omega
 have ed:decide ((((b - a)/8:Nat):Int)≤(b:Int) - mid)=decide (b - mid≥(b - a)/8):=by
  apply decide_eq_decide.2;omega
 rw[show ((mid+1:Nat):Int)=(mid:Int)+1 by omega]at hr
 simp (disch:=omega) only[ay,enc,e,hr,et,ed]
end
section
variable (nb:Bool) {N:Nat} (hN:N<65536)
include hN
theorem ED (d:Array Er) (a b cM:Nat) (wb wp:Bool):a≤b→b≤d.size→Below aD a b d→d.size=N→cM<1000→∀ (l:List D) (k:Nat),l.length=N→b - a<k→
  iter k (ak.b0 (Cl ty tab) (N+2) l) [.int .i64 a,.int .i64 b,.int .i64 cM,.bool wb,.bool wp,.ov 49 nb (ar aB d)]=some [.ov 49 nb (ar aB (pdq aD d a b cM wb wp))]:=by
 have hS:=Aa
 fun_induction pdq aD d a b cM wb wp
 case case1 d a b cM wb wp h12=>
  intro jC hb hB hd sA l k hl hk
  obtain⟨k,rfl⟩:∃ j,k=j+1:=⟨k - 1,by omega⟩
  unfold iter ak.b0
  have e:=Gm nb hN d hd a b jC (by omega)
  simp (disch:=omega) only[ay,enc,e]
 case case2 d a b wb wp h12=>
  intro jC hb hB hd sA l k hl hk
  obtain⟨k,rfl⟩:∃ j,k=j+1:=⟨k - 1,by omega⟩
  unfold iter ak.b0
  have e:=Eu nb hN d hd a b (by omega) (by omega)
  simp (disch:=omega) only[ay,enc,e]
 case case3 d a b cM wb wp h12 xL d1 c d2 sW pi vz=>
  intro jC hb hB hd sA l k hl hk
  obtain⟨k,rfl⟩:∃ j,k=j+1:=⟨k - 1,by omega⟩
  have s1:PermIn a b d d1:=step_break d jC hb _
  have b1:b≤d1.size:=by rw[s1.1];exact hb
  have s2:PermIn a b d1 d2:=step_reverse reverseRange_holds d1 jC b1 _
  unfold iter
  rw[I0 nb hN hl (a:=a) (b:=b) (by omega) (by omega) _ cM wb wp d hd xL sA,I1 nb hN hl (a:=a) (b:=b) (by omega) (by omega) _ cM wb wp _ d1 (by rw[s1.1];exact hd),I2 nb hN hl (a:=a) (b:=b) (by omega) (by omega) _ cM wb wp _ d2 (by rw[s2.1,s1.1];exact hd),if_pos vz]
 case case4 d a b ew wb wp h12 xL d1 cM c d2 fC sW pi vz d3 hc mid d4 hx hg ih1=>
  intro jC hb hB hd sA l k hl hk
  obtain⟨k,rfl⟩:∃ j,k=j+1:=⟨k - 1,by omega⟩
  have s1:PermIn a b d d1:=step_break d jC hb _
  have b1:b≤d1.size:=by rw[s1.1];exact hb
  have s2:PermIn a b d1 d2:=step_reverse reverseRange_holds d1 jC b1 _
  have b2:b≤d2.size:=by rw[s2.1];exact b1
  have B2:Below aD a b d2:=(hB.perm hb s1).perm b1 s2
  have s3:=step_partial partialInsertionSort_holds hS d2 (a:=a) (b:=b) (by omega) b2 B2 ((wb&&wp&&decide (sW=Hint.increasing))=true)
  have vA:PermIn a b d2 d3:=s3.1
  have b3:b≤d3.size:=by rw[vA.1];exact b2
  have B3:Below aD a b d3:=B2.perm b2 vA
  have hc0:=choosePivot_holds aD d1 a b (by omega)
  have qF:a≤fC∧fC<b:=pivot_range hc0.1 hc0.2 _
  have Af:d3.size=N:=by rw[vA.1,s2.1,s1.1];exact hd
  have hc':=hc
  simp only[zq3,decide_eq_true_eq,Bool.not_eq_true']at hc
  obtain⟨Kb,IZ,xQ,MG,hfin⟩:=round_eq hS (partitionEqual_holds aD) hc.1 qF.1 qF.2 b3 B3 hc.2 hx
  have Gu:cM<1000:=by simp only[cM];split<;>omega
  unfold iter
  rw[I0 nb hN hl (a:=a) (b:=b) (by omega) (by omega) _ ew wb wp d hd xL sA,I1 nb hN hl (a:=a) (b:=b) (by omega) (by omega) _ ew wb wp _ d1 (by rw[s1.1];exact hd),I2 nb hN hl (a:=a) (b:=b) (by omega) (by omega) _ ew wb wp _ d2 (by rw[s2.1,s1.1];exact hd),if_neg vz]
  refine (Ke nb hN hl (a:=a) (b:=b) (by omega) (by omega) _ ew wb wp _ d3 Af _ fC qF.1 qF.2).trans ?_
  rw[if_pos hc',hx]
  exact ih1 IZ (by rw[xQ];exact b3) MG (by rw[xQ];exact Af) Gu l k hl (by omega)
 case case5 d a b cM wb wp h12 xL d1 c d2 fC sW pi vz d3 hc mid d4 hx hg=>
  intro jC hb hB hd sA l k hl hk
  have s1:PermIn a b d d1:=step_break d jC hb _
  have b1:b≤d1.size:=by rw[s1.1];exact hb
  have s2:PermIn a b d1 d2:=step_reverse reverseRange_holds d1 jC b1 _
  have b2:b≤d2.size:=by rw[s2.1];exact b1
  have B2:Below aD a b d2:=(hB.perm hb s1).perm b1 s2
  have s3:=step_partial partialInsertionSort_holds hS d2 (a:=a) (b:=b) (by omega) b2 B2 ((wb&&wp&&decide (sW=Hint.increasing))=true)
  have vA:PermIn a b d2 d3:=s3.1
  have b3:b≤d3.size:=by rw[vA.1];exact b2
  have B3:Below aD a b d3:=B2.perm b2 vA
  have hc0:=choosePivot_holds aD d1 a b (by omega)
  have qF:a≤fC∧fC<b:=pivot_range hc0.1 hc0.2 _
  simp only[zq3,decide_eq_true_eq,Bool.not_eq_true']at hc
  obtain⟨g1,g2,_⟩:=round_eq hS (partitionEqual_holds aD) hc.1 qF.1 qF.2 b3 B3 hc.2 hx
  exact absurd ⟨g1,g2⟩ hg
 case case6 d a b ew wb wp h12 xL d1 cM c d2 fC sW pi vz d3 hc mid ap d4 hx hg hlt ih3 ih2 ih1=>
  intro jC hb hB hd sA l k hl hk
  obtain⟨k,rfl⟩:∃ j,k=j+1:=⟨k - 1,by omega⟩
  have s1:PermIn a b d d1:=step_break d jC hb _
  have b1:b≤d1.size:=by rw[s1.1];exact hb
  have s2:PermIn a b d1 d2:=step_reverse reverseRange_holds d1 jC b1 _
  have b2:b≤d2.size:=by rw[s2.1];exact b1
  have B2:Below aD a b d2:=(hB.perm hb s1).perm b1 s2
  have s3:=step_partial partialInsertionSort_holds hS d2 (a:=a) (b:=b) (by omega) b2 B2 ((wb&&wp&&decide (sW=Hint.increasing))=true)
  have vA:PermIn a b d2 d3:=s3.1
  have b3:b≤d3.size:=by rw[vA.1];exact b2
  have B3:Below aD a b d3:=B2.perm b2 vA
  have hc0:=choosePivot_holds aD d1 a b (by omega)
  have qF:a≤fC∧fC<b:=pivot_range hc0.1 hc0.2 _
  have Af:d3.size=N:=by rw[vA.1,s2.1,s1.1];exact hd
  obtain⟨g1,g2,xQ,Kh,Ki,Ig,_⟩:=round_part hS (partition_holds aD) qF.1 qF.2 b3 B3 hx
  have Gu:cM<1000:=by simp only[cM];split<;>omega
  have Gv:=ih3 g1 (by rw[xQ];omega) Kh (by rw[xQ];exact Af) Gu (ar aB d4) (N+2) (by rw[cG,xQ];exact Af) (by omega)
  obtain⟨l1,l2⟩:=pdq_sorts aD hS d4 a mid cM true true g1 (by rw[xQ];omega) Kh
  obtain⟨Kj,hfin⟩:=Ig _ l1 l2
  have hr:Cl ty tab 109 [.ov 49 nb (ar aB d4),.int .i64 a,.int .i64 mid,.int .i64 cM,.fn 102 [.rp [.fn 81 []] 0]]=some [.ov 49 nb (ar aB (pdq aD d4 a mid cM true true))]:=by
   refine cR (N+2) nb _ _ _ _ ?_
   unfold ak
   exact Gv
  unfold iter
  rw[I0 nb hN hl (a:=a) (b:=b) (by omega) (by omega) _ ew wb wp d hd xL sA,I1 nb hN hl (a:=a) (b:=b) (by omega) (by omega) _ ew wb wp _ d1 (by rw[s1.1];exact hd),I2 nb hN hl (a:=a) (b:=b) (by omega) (by omega) _ ew wb wp _ d2 (by rw[s2.1,s1.1];exact hd),if_neg vz]
  refine (Ke nb hN hl (a:=a) (b:=b) (by omega) (by omega) _ ew wb wp _ d3 Af _ fC qF.1 qF.2).trans ?_
  rw[if_neg hc]
  refine (Kf nb hN hl (a:=a) (b:=b) (by omega) (by omega) _ ew wb wp _ d3 Af cM fC qF.1 qF.2 mid ap d4 _ hx g1 g2 hlt hr).trans ?_
  exact ih1 (by omega) (by rw[l1.1,xQ];exact b3) Kj (by rw[l1.1,xQ];exact Af) Gu l k hl (by omega)
 case case7 d a b ew wb wp h12 xL d1 cM c d2 fC sW pi vz d3 hc mid ap d4 hx hg hlt ih3 ih2 ih1=>
  intro jC hb hB hd sA l k hl hk
  obtain⟨k,rfl⟩:∃ j,k=j+1:=⟨k - 1,by omega⟩
  have s1:PermIn a b d d1:=step_break d jC hb _
  have b1:b≤d1.size:=by rw[s1.1];exact hb
  have s2:PermIn a b d1 d2:=step_reverse reverseRange_holds d1 jC b1 _
  have b2:b≤d2.size:=by rw[s2.1];exact b1
  have B2:Below aD a b d2:=(hB.perm hb s1).perm b1 s2
  have s3:=step_partial partialInsertionSort_holds hS d2 (a:=a) (b:=b) (by omega) b2 B2 ((wb&&wp&&decide (sW=Hint.increasing))=true)
  have vA:PermIn a b d2 d3:=s3.1
  have b3:b≤d3.size:=by rw[vA.1];exact b2
  have B3:Below aD a b d3:=B2.perm b2 vA
  have hc0:=choosePivot_holds aD d1 a b (by omega)
  have qF:a≤fC∧fC<b:=pivot_range hc0.1 hc0.2 _
  have Af:d3.size=N:=by rw[vA.1,s2.1,s1.1];exact hd
  obtain⟨g1,g2,xQ,Kh,Ki,_,Gw⟩:=round_part hS (partition_holds aD) qF.1 qF.2 b3 B3 hx
  have Gu:cM<1000:=by simp only[cM];split<;>omega
  have Gv:=ih3 (by omega) (by rw[xQ];exact b3) Ki (by rw[xQ];exact Af) Gu (ar aB d4) (N+2) (by rw[cG,xQ];exact Af) (by omega)
  obtain⟨l1,l2⟩:=pdq_sorts aD hS d4 (mid+1) b cM true true (by omega) (by rw[xQ];exact b3) Ki
  obtain⟨Kj,hfin⟩:=Gw _ l1 l2
  have hr:Cl ty tab 109 [.ov 49 nb (ar aB d4),.int .i64 ((mid+1:Nat):Int),.int .i64 b,.int .i64 cM,.fn 102 [.rp [.fn 81 []] 0]]=some [.ov 49 nb (ar aB (pdq aD d4 (mid+1) b cM true true))]:=by
   refine cR (N+2) nb _ _ _ _ ?_
   unfold ak
   exact Gv
  unfold iter
  rw[I0 nb hN hl (a:=a) (b:=b) (by omega) (by omega) _ ew wb wp d hd xL sA,I1 nb hN hl (a:=a) (b:=b) (by omega) (by omega) _ ew wb wp _ d1 (by rw[s1.1];exact hd),I2 nb hN hl (a:=a) (b:=b) (by omega) (by omega) _ ew wb wp _ d2 (by rw[s2.1,s1.1];exact hd),if_neg vz]
  refine (Ke nb hN hl (a:=a) (b:=b) (by omega) (by omega) _ ew wb wp _ d3 Af _ fC qF.1 qF.2).trans ?_
  rw[if_neg hc]
  refine (Kg nb hN hl (a:=a) (b:=b) (by omega) (by omega) _ ew wb wp _ d3 Af cM fC qF.1 qF.2 mid ap d4 _ hx g1 g2 hlt hr).trans ?_
  exact ih1 g1 (by rw[l1.1,xQ];omega) Kj (by rw[l1.1,xQ];exact Af) Gu l k hl (by omega)
 case case8 d a b cM wb wp h12 xL d1 c d2 fC sW pi vz d3 hc mid ap d4 hx hg=>
  intro jC hb hB hd sA l k hl hk
  have s1:PermIn a b d d1:=step_break d jC hb _
  have b1:b≤d1.size:=by rw[s1.1];exact hb
  have s2:PermIn a b d1 d2:=step_reverse reverseRange_holds d1 jC b1 _
  have b2:b≤d2.size:=by rw[s2.1];exact b1
  have B2:Below aD a b d2:=(hB.perm hb s1).perm b1 s2
  have s3:=step_partial partialInsertionSort_holds hS d2 (a:=a) (b:=b) (by omega) b2 B2 ((wb&&wp&&decide (sW=Hint.increasing))=true)
  have vA:PermIn a b d2 d3:=s3.1
  have b3:b≤d3.size:=by rw[vA.1];exact b2
  have B3:Below aD a b d3:=B2.perm b2 vA
  have hc0:=choosePivot_holds aD d1 a b (by omega)
  have qF:a≤fC∧fC<b:=pivot_range hc0.1 hc0.2 _
  obtain⟨g1,g2,_⟩:=round_part hS (partition_holds aD) qF.1 qF.2 b3 B3 hx
  exact absurd ⟨g1,g2⟩ hg
end
theorem EE (nb:Bool) (xs:List Er) (h:xs.length<65536):Cl ty tab 101 [.ov 49 nb (xs.map aB),.fn 102 [.rp [.fn 81 []] 0]]=some [.ov 49 nb ((sort aD xs.toArray).toList.map aB)]:=by
 refine n_ 0 nb _ ?_
 unfold kG
 have hw:IntKind.u64.wrap ((xs.length:Nat):Int)=((xs.length:Nat):Int):=sy (by omega) (by omega)
 have Lh:bitsLen xs.length≤16:=(bitsLen_le_iff _ 16).2 (by omega)
 have e:=Ad xs.length h
 have hp:Cl ty tab 109 [.ov 49 nb (ar aB xs.toArray),.int .i64 ((0:Nat):Int),.int .i64 (xs.length:Nat),.int .i64 (bitsLen xs.length:Nat),.fn 102 [.rp [.fn 81 []] 0]]=some [.ov 49 nb (ar aB (pdq aD xs.toArray 0 xs.length (bitsLen xs.length) true true))]:=by
  refine cR (xs.length+2) nb _ _ _ _ ?_
  unfold ak
  exact ED nb h xs.toArray 0 xs.length (bitsLen xs.length) true true (Nat.zero_le _) (by simp) (Or.inl rfl) (by simp) (by omega) _ _ (by simp[cG]) (by omega)
 rw[Ia,show ((0:Nat):Int)=0 from rfl]at hp
 simp (disch:=omega) only[ay,hw,e,hp]
 rfl
theorem xm (xs:List Er):(sort aD xs.toArray).toList.Perm xs∧(sort aD xs.toArray).toList.Pairwise fun a b=>aD b a=false:=by
 obtain⟨⟨h1,h2,h3⟩,h4⟩:=sort_sorts aD Aa xs.toArray
 have hs:(sort aD xs.toArray).size=xs.length:=by rw[h1];simp
 refine⟨?_, ?_⟩
 ·have e1:(sort aD xs.toArray).extract 0 xs.toArray.size=sort aD xs.toArray:=by
   have:xs.toArray.size=(sort aD xs.toArray).size:=by rw[hs];simp
   rw[this];simp
  have e2:xs.toArray.extract 0 xs.toArray.size=xs.toArray:=by simp
  rw[e1,e2]at h3
  simpa using h3
 ·rw[List.pairwise_iff_getElem]
  intro i j hi hj hij
  have:=h4 i j (Nat.zero_le _) hij (by simpa[hs]using hj)
  have hi':i<(sort aD xs.toArray).size:=by simpa using hi
  have hj':j<(sort aD xs.toArray).size:=by simpa using hj
  rw[getElem!_pos _ j hj',getElem!_pos _ i hi']at this
  simpa using this
end Go.Proofs.Ytkfnkiejikhglaa.Own
namespace Go.Proofs.Ytkfnkiejikhglaa.GD
open Go
section
variable {κ β:Type} [DecidableEq κ] (kd:κ→D) (vd:β→D)
def eY (x:κ):List (κ×β)→Option β
 |[]=>none
 |(k,v)::m=>if x=k then some v else eY x m
def oC (x:κ) (y:β):List (κ×β)→List (κ×β)
 |[]=>[(x,y)]
 |(k,v)::m=>if x=k then (k,y)::m else (k,v)::oC x y m
def qa (m:List (κ×β)):List D:=m.map fun e=>kd e.1
def uc (m:List (κ×β)):List D:=m.map fun e=>vd e.2
variable (hk:∀ a b,qe (kd a) (kd b)=decide (a=b))
include hk
theorem xn (x:κ):∀ m:List (κ×β),mC (kd x) (qa kd m) (uc vd m)=(eY x m).map vd
 |[]=>rfl
 |(k,v)::m=>by
  have ih:=xn x m
  simp only[qa,uc,List.map_cons,mC,hk,eY]at ih⊢
  by_cases h:x=k
  ·simp[h]
  ·simp[h,ih]
theorem xp (x:κ) (y:β):∀ m:List (κ×β),i9 (kd x) (qa kd m)=qa kd (oC x y m)
 |[]=>rfl
 |(k,v)::m=>by
  have ih:=xp x y m
  simp only[qa,List.map_cons,i9,hk,oC]at ih⊢
  by_cases h:x=k
  ·simp[h]
  ·simp[h,ih]
theorem xq (x:κ) (y:β):∀ m:List (κ×β),jF (kd x) (vd y) (qa kd m) (uc vd m)=uc vd (oC x y m)
 |[]=>rfl
 |(k,v)::m=>by
  have ih:=xq x y m
  simp only[qa,uc,List.map_cons,jF,hk,oC]at ih⊢
  by_cases h:x=k
  ·simp[h]
  ·simp[h,ih]
omit hk
theorem pn (x z:κ) (y:β):∀ m:List (κ×β),eY z (oC x y m)=if z=x then some y else eY z m
 |[]=>by simp[oC,eY]
 |(k,v)::m=>by
  have ih:=pn x z y m
  by_cases h:x=k
  ·subst h
   by_cases hz:z=x<;>simp[oC,eY,hz]
  ·by_cases hz:z=k
   ·subst hz
    simp[oC,eY,h,Ne.symm h]
   ·simp[oC,eY,h,hz,ih]
end
end Go.Proofs.Ytkfnkiejikhglaa.GD
namespace Go.Proofs.Ytkfnkiejikhglaa.Own
open Go Go.Proofs.Ytkfnkiejikhglaa.GD Go.Proofs.Ytkfnkiejikhglaa.GD.Trie Go.Sort
structure Px where
 f:Int
 h:Nat
 l:Nat
 n:Int
deriving DecidableEq,Inhabited
abbrev Px.d (p:Px):D:=P4 p.f p.h p.l p.n
def Er.px (x:Er):Px:=⟨x.f,x.h,x.l,x.n⟩
structure Nr where
 f:Int
 h:Nat
 l:Nat
 n:Int
 nb:Bool
 vs:List Int
 c0:Int
 c1:Int
deriving Inhabited
def bL (x:Nr):D:= .agg [.int .u8 x.f,.int .u64 (x.h:Int),.int .u64 (x.l:Int),.int .i64 x.n,.sl 3 x.nb (gT x.vs),.int .i64 x.c0,.int .i64 x.c1]
theorem pp:(∀ x:Nr,(bL x).cell 0= .int .u8 x.f)∧(∀ x:Nr,(bL x).cell 1= .int .u64 (x.h:Int))∧(∀ x:Nr,(bL x).cell 2= .int .u64 (x.l:Int))∧(∀ x:Nr,(bL x).cell 3= .int .i64 x.n)∧(∀ x:Nr,(bL x).cell 4= .sl 3 x.nb (gT x.vs))∧
  (∀ x:Nr,(bL x).cell 5= .int .i64 x.c0)∧(∀ x:Nr,(bL x).cell 6= .int .i64 x.c1)∧
  (∀ x:Nr,D.agg [.int .u8 x.f,.int .u64 (x.h:Int),.int .u64 (x.l:Int),.int .i64 x.n,.sl 3 x.nb (gT x.vs),.int .i64 x.c0,.int .i64 x.c1]=bL x):=
 ⟨fun _=>rfl,fun _=>rfl,fun _=>rfl,fun _=>rfl,fun _=>rfl,fun _=>rfl,fun _=>rfl,fun _=>rfl⟩
structure Er.de (x:Er):Prop where
 r:dR x.h x.l
 nb:x.nb=true→x.vs=[]
structure Nr.de (x:Nr):Prop where
 r:dR x.h x.l
 nb:x.nb=true→x.vs=[]
def y4:List Int→Bool
 |a::b::l=>decide (a<b)&&y4 (b::l)
 |_=>true
def gU (l:List Int):Bool:= !l.isEmpty&&(decide (l.length≤4000)&&(decide (0≤l.headD 0)&&y4 l))
theorem BA (nb:Bool) (v:List Int):Cl ty tab 76 [.sl 3 nb (gT v)]=some [.bool (gU v)]:=by
 obtain⟨k,hk⟩:=bY
 refine sP k _ _ ?_
 unfold dP gU
 have hlen:(gT v).length=v.length:=by simp
 cases hv:v with
 |nil=>simp (disch:=omega) only[ay];simp
 |cons a r=>
  rw[←hv]
  have h0: ¬((v.length:Nat):Int)=0:=by rw[hv];simp;omega
  have he:v.isEmpty=false:=by rw[hv];rfl
  by_cases h1:v.length≤4000
  ·have h2: ¬(4000:Int)<((v.length:Nat):Int):=by omega
   have Li:(gT v).getD 0 .undef=D.int .i64 a:=by rw[hv];rfl
   have hh:v.headD 0=a:=by rw[hv];rfl
   by_cases h3:a<0
   ·have h4: ¬0≤a:=by omega
    simp (disch:=omega) only[ay,hlen,h0,he,h1,h2,Li,h3,h4,hh]
   ·have h4:0≤a:=by omega
    have:=bP (F:=dP.b0 (Cl ty tab) k (gT v)) (v.length - 1) (fun i=>[.int .i64 ((i:Int)+1)]) (fun i=>some [.bool (y4 (v.drop i))]) (fun i hi again ha=> ?_) (fun again=> ?_) k (by omega) 0 (by omega)
    ·have e:(0:Int)+1=1:=rfl
     rw[show ((0:Nat):Int)+1=1 from rfl,List.drop_zero]at this
     simp (disch:=omega) only[ay,hlen,h0,he,h1,h2,Li,h3,h4,hh,this]
    ·unfold dP.b0
     have g1:(gT v).getD i .undef=D.int .i64 v[i]:=aP (by omega)
     have g2:(gT v).getD (i+1) .undef=D.int .i64 v[i+1]:=aP (by omega)
     have hd:v.drop i=v[i]::v[i+1]::v.drop (i+2):=by
      rw[List.drop_eq_getElem_cons (by omega),List.drop_eq_getElem_cons (by omega)]
     have BL:v.drop (i+1)=v[i+1]::v.drop (i+2):=List.drop_eq_getElem_cons (by omega)
     rw[BL]at ha
     rw[hd]
     unfold y4
     have e1:(i:Int)+1 - 1=i:=by omega
     by_cases hlt:v[i]<v[i+1]
     ·have hle: ¬v[i+1]≤v[i]:=by omega
      simp (disch:=omega) only[ay,hlen,e1,g1,g2,hlt,hle,Int.natCast_add,Int.natCast_one]at ha⊢
      exact ha
     ·have hle:v[i+1]≤v[i]:=by omega
      simp (disch:=omega) only[ay,hlen,e1,g1,g2,hlt,hle]
    ·unfold dP.b0
     have hd:v.drop (v.length - 1)=[v[v.length - 1]'(by rw[hv];simp)]:=by
      rw[List.drop_eq_getElem_cons (by rw[hv];simp),List.drop_eq_nil_of_le (by omega)]
     have e1: ¬(((v.length - 1:Nat):Int)+1)<((v.length:Nat):Int):=by omega
     rw[hd]
     simp (disch:=omega) only[ay,hlen,e1,y4]
  ·have h2:(4000:Int)<((v.length:Nat):Int):=by omega
   simp (disch:=omega) only[ay,hlen,h0,he,h1,h2]
theorem y6 (a b:Px):qe a.d b.d=decide (a=b):=by
 obtain⟨f,h,l,n⟩:=a
 obtain⟨f',h',l',n'⟩:=b
 simp only[Px.d,qe,cellsOf,oH,vO,Option.getD_some,Px.mk.injEq,Int.ofNat_inj,HT,Bool.decide_and,if_true]
def ey:List (Px×Unit)→List Er→Int
 |_,[]=>0
 |m,x::r=>if cy x.f x.h x.l x.n≠0 then cy x.f x.h x.l x.n else if gU x.vs=false then 2 else if (eY x.px m).isSome=true then 14 else ey (oC x.px () m) r
theorem Dp (nb:Bool) (L:List Er) (hg:∀ x,x∈L→x.de) (hl:L.length≤9223372036854775807):Cl ty tab 37 [.sl 49 nb (L.map aB)]=some [.int .i64 (ey [] L)]:=by
 obtain⟨k,hk⟩:=bY
 refine uT k _ _ ?_
 unfold fS
 have hlen:(L.map aB).length=L.length:=by simp
 refine bk (F:=fS.b0 (Cl ty tab) k (L.map aB)) (σ:=Nat×List (Px×Unit)) (fun s=>[.int .i64 s.1,.mpv (qa Px.d s.2) (uc (fun _=>D.bool true) s.2)]) (fun s=>some [.int .i64 (ey s.2 (L.drop s.1))]) (fun s=>L.length - s.1) (fun s=>s.1≤L.length) (fun s hs again ih=> ?_) k (0,[]) (by simp) (by simp;omega)
 obtain⟨i,m⟩:=s
 dsimp only at hs ih⊢
 unfold fS.b0
 rcases Nat.lt_or_ge i L.length with hi |hi
 ·have g:=aP (f:=aB) hi
  have hd:L.drop i=L[i]::L.drop (i+1):=List.drop_eq_getElem_cons hi
  rw[hd]
  have hx:=hg L[i] (List.getElem_mem hi)
  generalize L[i]=x at*
  have c1:=eI x.f x.h x.l x.n hx.r
  have c2:=BA x.nb x.vs
  unfold ey
  by_cases h1:cy x.f x.h x.l x.n=0
  ·cases h2:gU x.vs
   ·simp (disch:=omega) only[ay,hlen,g,enc,c1,c2,h1,h2,ne_eq,not_true_eq_false]
   ·have m1:=xn Px.d (fun _:Unit=>D.bool true) y6 x.px m
    have m2:=xp Px.d y6 x.px () m
    have m3:=xq Px.d (fun _:Unit=>D.bool true) y6 x.px () m
    unfold Px.d Er.px at m1 m2 m3
    dsimp only at m1 m2 m3
    have b9:=ih (i+1,oC x.px () m) hi (by dsimp only;omega)
    dsimp only at b9
    unfold Er.px Px.d at b9⊢
    cases hm:eY (⟨x.f,x.h,x.l,x.n⟩:Px) m with
    |some u=>
     rw[hm]at m1
     simp (disch:=omega) only[ay,hlen,g,enc,c1,c2,h1,h2,ne_eq,not_true_eq_false,D.mks,D.mvs,m1,Option.map_some,Option.getD_some,Option.isSome_some]
    |none=>
     rw[hm]at m1
     simp (disch:=omega) only[ay,hlen,g,enc,c1,c2,h1,h2,ne_eq,not_true_eq_false,D.mks,D.mvs,m1,Option.map_none,Option.getD_none,Option.isSome_none,m2,m3,Int.natCast_add,Int.natCast_one]at b9⊢
     exact b9
  ·simp (disch:=omega) only[ay,hlen,g,enc,c1,h1,ne_eq,not_false_eq_true]
 ·have:i=L.length:=by omega
  subst this
  rw[List.drop_length]
  simp (disch:=omega) only[ay,hlen,ey]
theorem qb:∀ {m:List (Px×Unit)} {L:List Er},ey m L=0→(∀ x,x∈L→cy x.f x.h x.l x.n=0∧gU x.vs=true∧eY x.px m=none)∧L.Pairwise fun a b=>a.px≠b.px
 |m,[],_=>⟨fun x h=>(by cases h),List.Pairwise.nil⟩
 |m,x::r,h=>by
  unfold ey at h
  split at h
  ·rename_i h1;exact absurd h h1
  rename_i h1
  split at h
  ·cases h
  rename_i h2
  split at h
  ·cases h
  rename_i h3
  obtain⟨g1,g2⟩:=qb h
  have hx:cy x.f x.h x.l x.n=0∧gU x.vs=true∧eY x.px m=none:=⟨Classical.not_not.1 h1,by simpa using h2,by simpa using h3⟩
  have hr:∀ y,y∈r→x.px≠y.px∧eY y.px m=none:=fun y hy=>by
   have:=(g1 y hy).2.2
   rw[pn]at this
   split at this
   ·cases this
   ·rename_i hne;exact⟨Ne.symm hne,this⟩
  exact⟨fun y hy=>by
   rcases List.mem_cons.1 hy with rfl |hy
   ·exact hx
   ·exact⟨(g1 y hy).1,(g1 y hy).2.1,(hr y hy).2⟩,List.pairwise_cons.2 ⟨fun y hy=>(hr y hy).1,g2⟩⟩
def aw (L:List Nr):List Er:=(L.filter fun x=> !x.vs.isEmpty).map fun x=>⟨x.f,x.h,x.l,x.n,false,x.vs⟩
theorem iu (a b:List Nr):aw (a++b)=aw a++aw b:=by simp[aw]
theorem oD {nb:Bool} {v:List Int} (h:nb=true→v=[]) (hv:v≠[]) (hl:v.length≤5000):Cl ty tab 52 [.sl 3 nb (gT v)]=some [.ov 3 false (gT v)]:=by
 refine n9 0 _ _ ?_
 unfold kF
 have hn:nb=false:=by cases nb;rfl;exact absurd (h rfl) hv
 have hlen:(gT v).length=v.length:=by simp
 simp (disch:=omega) only[ay,hn,hlen,show (0+v.length)*8≤140737488355328 by omega]
end Go.Proofs.Ytkfnkiejikhglaa.Own
namespace Go.Proofs.Ytkfnkiejikhglaa.Own
open Go Go.Proofs.Ytkfnkiejikhglaa.GD Go.Proofs.Ytkfnkiejikhglaa.GD.Trie Go.Sort
theorem BB (n:Bool) (A B:List D) (n1 n2:Bool) (hA:A.length<65536) (hB:B.length<65536):∃ nb,Cl ty tab 79 [.sl 22 n [.sl 69 n1 A,.sl 69 n2 B]]=some [.ov 69 nb (A++B)]:=by
 have key:∀ nb0,Cl ty tab 99 [.ov 69 true [],.int .i64 ((A.length+B.length:Nat):Int)]=some [.ov 69 nb0 []]→∃ nb,Cl ty tab 79 [.sl 22 n [.sl 69 n1 A,.sl 69 n2 B]]=some [.ov 69 nb (A++B)]:=fun nb0 hg=>by
  refine⟨B.isEmpty&&(A.isEmpty&&nb0), ?_⟩
  refine qh 3 n _ ?_
  unfold cz
  simp only[iter]
  unfold cz.b0
  have e1:((A.length:Nat):Int)+((B.length:Nat):Int)=((A.length+B.length:Nat):Int):=by omega
  simp (disch:=omega) only[ay,List.getD_cons_zero,Int.zero_add,e1,hg,show ((1:Int)).toNat=1 from rfl,show ((0:Int)).toNat=0 from rfl,iter]
  unfold cz.b1
  simp (disch:=omega) only[ay,List.getD_cons_zero,Int.zero_add,show ((1:Int)).toNat=1 from rfl,show ((0:Int)).toNat=0 from rfl,List.length_append]
 refine key (decide (((A.length+B.length:Nat):Int)=0)) ?_
 rw[sO,growSpec]
 rw[if_pos ⟨rfl,by omega,by omega⟩]
theorem sB (L:List Nr) (i:Nat) (hi:i<L.length):aw (L.take (i+1))=aw (L.take i)++(if L[i].vs.isEmpty then []else [⟨L[i].f,L[i].h,L[i].l,L[i].n,false,L[i].vs⟩]):=by
 rw[List.take_add_one,zq4 hi]
 simp only[Option.toList_some,iu]
 congr 1
 cases h:L[i].vs.isEmpty<;>simp[aw,h]
theorem cT (L:List Nr):(aw L).length≤L.length:=by simp[aw,List.length_filter_le]
theorem EF (n1 n2:Bool) (A B:List Nr) (hA:∀ x,x∈A→x.de∧x.vs.length≤5000) (hB:∀ x,x∈B→x.de∧x.vs.length≤5000) (lA:A.length≤5000) (lB:B.length≤5000):
  Cl ty tab 42 [.agg [.sl 69 n1 (A.map bL),.sl 69 n2 (B.map bL)]]=some [.ov 49 (aw (A++B)).isEmpty ((aw (A++B)).map aB)]:=by
 obtain⟨k,hk⟩:=bY
 refine wS k _ _ _ _ ?_
 unfold fT
 obtain⟨nb,hc⟩:=BB false (A.map bL) (B.map bL) n1 n2 (by simp;omega) (by simp;omega)
 rw[hc]
 simp only[Option.bind_some]
 rw[←List.map_append]
 have hL:∀ x,x∈A++B→x.de∧x.vs.length≤5000:=fun x hx=>(List.mem_append.1 hx).elim (hA x) (hB x)
 have hl:(A++B).length≤10000:=by rw[List.length_append];omega
 generalize A++B=L at*
 have hlen:(L.map bL).length=L.length:=by simp
 have:=bP (F:=fT.b0 (Cl ty tab) k [.ov 69 nb (L.map bL)]) L.length (fun i=>[.ov 49 (aw (L.take i)).isEmpty ((aw (L.take i)).map aB),.int .i64 i,.ov 69 nb (L.map bL)])
  (fun _=>some [.ov 49 (aw L).isEmpty ((aw L).map aB)]) (fun i hi again ha=> ?_) (fun again=> ?_) k (by omega) 0 (by omega)
 ·exact this
 ·unfold fT.b0
  have g:=aP (f:=bL) hi
  have hx:=hL L[i] (List.getElem_mem hi)
  have hb:=cT (L.take i)
  rw[sB L i hi]at ha
  rw[List.length_take]at hb
  generalize L[i]=x at*
  generalize aw (L.take i)=H at*
  have hH:(H.map aB).length=H.length:=by simp
  cases hv:x.vs with
  |nil=>
   rw[hv]at ha
   have e0:(gT ([]:List Int)).length=0:=rfl
   simp only[List.isEmpty_nil,if_true,List.append_nil]at ha
   simp (disch:=omega) only[ay,hlen,g,pp,hv,e0,Int.natCast_add,Int.natCast_one,Int.natCast_zero,Int.lt_irrefl]at ha⊢
   exact ha
  |cons v vs=>
   have hne:x.vs≠[]:=by rw[hv];simp
   have he:x.vs.isEmpty=false:=by rw[hv];rfl
   have hcl:=oD hx.1.nb hne hx.2
   have e0:(0:Int)<((x.vs.length:Nat):Int):=by rw[hv];simp
   rw[he]at ha
   simp only[Bool.false_eq_true,if_false]at ha
   have e2:∀ z:Er,(H++[z]).isEmpty=false:=fun z=>by simp
   rw[e2,List.map_append,List.map_cons,List.map_nil]at ha
   have e3:(H.length+1)*56≤140737488355328:=by omega
   have f1:=enc.2.2.2.2.2.1 ⟨x.f,x.h,x.l,x.n,false,x.vs⟩
   dsimp only at f1
   simp (disch:=omega) only[ay,hlen,g,pp,hcl,e0,e3,hH,f1,Int.natCast_add,Int.natCast_one]at ha⊢
   exact ha
 ·unfold fT.b0
  rw[List.take_length]
  simp (disch:=omega) only[ay,hlen]
noncomputable def aF (f:Int) (k:Bs):Pf:=Classical.epsilon fun p:Pf=>p.ok∧p.f=f∧p.bits=k
def jT (f:Int) (k:Bs):Prop:=∃ p:Pf,p.ok∧p.f=f∧p.bits=k
theorem jT.sp {f:Int} {k:Bs} (h:jT f k):(aF f k).ok∧(aF f k).f=f∧(aF f k).bits=k:=Classical.epsilon_spec (p:=fun p:Pf=>p.ok∧p.f=f∧p.bits=k) h
theorem vB {p:Pf} (hp:p.ok):aF p.f p.bits=p:=by
 have h:jT p.f p.bits:=⟨p,hp,rfl,rfl⟩
 exact sj h.sp.1 hp h.sp.2.1 h.sp.2.2
theorem vC {f:Int} {p:Pf} (hp:p.ok) (hf:p.f=f):aF f p.bits=p:=by subst hf;exact vB hp
theorem jT.pre {f:Int} {k t:Bs} (h:jT f k) (ht:t<+:k):jT f t:=by
 obtain⟨p,hp,hf,rfl⟩:=h
 have hl:=ht.length_le
 rw[p.len]at hl
 have hn:=hp.all.2.2.1
 refine⟨p.cut t.length,sm hp.r hp.all.1 hp.all.2.1 (by omega),hf, ?_⟩
 rw[sq hl hn]
 exact (List.prefix_iff_eq_take.1 ht).symm
noncomputable def iR (f:Int) (e:En):Er:=⟨(aF f e.k).f,(aF f e.k).h,(aF f e.k).l,(aF f e.k).n,false,e.v⟩
noncomputable def pq (f:Int) (x:Nd):Nr:=⟨(aF f x.k).f,(aF f x.k).h,(aF f x.k).l,(aF f x.k).n,x.v.isEmpty,x.v,x.c0,x.c1⟩
noncomputable def iS (f:Int) (e:En):D:=aB (iR f e)
noncomputable def jU (f:Int) (x:Nd):D:=bL (pq f x)
def dI {α:Type} (P:α→Bool) (l:List α):Nat:=(l.takeWhile fun x=> !P x).length
theorem Ag {α:Type} (P:α→Bool) (l:List α):dI P l≤l.length:=by
 unfold dI
 exact (List.takeWhile_prefix _).length_le
def kr {α:Type} (P:α→Bool) (l:List α):Int:=if dI P l<l.length then (dI P l:Nat)else -1
theorem ue {α:Type} {P:α→Bool} {l:List α} {i:Nat} (hi:i<l.length):(if dI P (l.drop i)<(l.drop i).length then ((i+dI P (l.drop i):Nat):Int)else -1)=if P l[i]=true then (i:Int)else if dI P (l.drop (i+1))<(l.drop (i+1)).length then ((i+1+dI P (l.drop (i+1)):Nat):Int)else -1:=by
 rw[List.drop_eq_getElem_cons hi]
 unfold dI
 rw[List.takeWhile_cons]
 cases h:P l[i]
 ·simp only[Bool.not_false,if_true,List.length_cons,Bool.false_eq_true,if_false]
  generalize ((l.drop (i+1)).takeWhile _).length=c
  generalize (l.drop (i+1)).length=m
  by_cases hc:c<m
  ·rw[if_pos (by omega),if_pos hc];omega
  ·rw[if_neg (by omega),if_neg hc]
 ·simp
  omega
theorem Gx (x:Er) (p T:Pf) (hx:x.f=p.f∧x.h=p.h∧x.l=p.l∧x.n=p.n) (hp:p.ok):Cl ty tab 106 [aB x,.rp [.int .u8 T.f,.int .u64 (T.h:Int),.int .u64 (T.l:Int),.int .i64 (T.n:Int)] 0]=some [.bool (Trie.aM p.bits T.n)]:=by
 unfold aB
 refine ql 0 _ _ _ _ _ _ _ _ _ _ ?_
 unfold mQ
 have h:=qD hp T.n
 obtain⟨e1,e2,e3,e4⟩:=hx
 rw[e1,e2,e3,e4]
 cases hb:Trie.aM p.bits T.n
 ·rw[hb]at h
  simp (disch:=omega) only[ay,h,bi,Int.reduceEq]
 ·rw[hb]at h
  simp (disch:=omega) only[ay,h,bi]
theorem EG {f:Int} (nb:Bool) (L:List En) (T:Pf) {m:Nat} (hm:T.n=m) (hL:∀ e,e∈L→jT f e.k) (hl:L.length≤100000):Cl ty tab 66 [.sl 49 nb (L.map (iS f)),.fn 106 [.rp [.int .u8 T.f,.int .u64 (T.h:Int),.int .u64 (T.l:Int),.int .i64 (T.n:Int)] 0]]=
  some [.int .i64 (kr (fun e=>Trie.aM e.k m) L)]:=by
 subst hm
 obtain⟨k,hk⟩:=bY
 refine jx k _ _ _ _ _ _ ?_
 unfold bg
 have hlen:(L.map (iS f)).length=L.length:=by simp
 have:=bP (F:=bg.b0 (Cl ty tab) k (L.map (iS f)) T.f T.h T.l T.n) L.length (fun i=>[.int .i64 i])
  (fun i=>some [.int .i64 (if dI (fun e:En=>Trie.aM e.k T.n) (L.drop i)<(L.drop i).length then ((i+dI (fun e:En=>Trie.aM e.k T.n) (L.drop i):Nat):Int)else -1)]) (fun i hi again ha=> ?_) (fun again=> ?_) k (by omega) 0 (by omega)
 ·rw[List.drop_zero]at this
  simpa[kr]using this
 ·unfold bg.b0
  rw[ue hi]
  have g:(L.map (iS f)).getD i .undef=aB (iR f L[i]):=aP hi
  have hx:=(hL L[i] (List.getElem_mem hi)).sp
  generalize L[i]=e at*
  have hb:=Gx (iR f e) (aF f e.k) T ⟨rfl,rfl,rfl,rfl⟩ hx.1
  rw[hx.2.2]at hb
  cases oE:Trie.aM e.k T.n
  ·rw[oE]at hb
   simp (disch:=omega) only[ay,hlen,g,enc,hb,Int.natCast_add,Int.natCast_one]at ha⊢
   exact ha
  ·rw[oE]at hb
   simp (disch:=omega) only[ay,hlen,g,enc,hb]
 ·unfold bg.b0
  rw[List.drop_length]
  simp (disch:=omega) only[ay,hlen]
  simp[dI]
end Go.Proofs.Ytkfnkiejikhglaa.Own
namespace Go.Proofs.Ytkfnkiejikhglaa.Own
open Go Go.Proofs.Ytkfnkiejikhglaa.GD Go.Proofs.Ytkfnkiejikhglaa.GD.Trie Go.Sort
theorem vD {lw G:List D} {a:D}:(lw++a::G).getD lw.length .undef=a:=by simp[zq1]
theorem vE {lw G:List D} {a b:D}:(lw++a::G).set lw.length b=lw++b::G:=by simp
theorem y7 {p q:Pf} (hp:p.ok) (hq:q.ok) (hf:p.f=q.f):(decide (p.f=q.f)&&(decide ((p.h:Int)=q.h)&&(decide ((p.l:Int)=q.l)&&decide ((p.n:Int)=q.n))))=decide (p.bits=q.bits):=by
 by_cases h:p.bits=q.bits
 ·have:=sj hp hq hf h
  subst this;simp
 ·have: ¬p=q:=fun hh=>h (by rw[hh])
  rw[decide_eq_false h,Bool.eq_false_iff]
  intro hc
  simp only[zq3,decide_eq_true_eq]at hc
  apply this
  obtain⟨f,h,l,n⟩:=p
  obtain⟨f',h',l',n'⟩:=q
  dsimp only at hc
  obtain⟨h1,h2,h3,h4⟩:=hc
  rw[h1,Int.ofNat_inj.1 h2,Int.ofNat_inj.1 h3,Int.ofNat_inj.1 h4]
theorem EH (t:Bs) (L:List En):ox t L=L.take (dI (fun e=>Trie.aM e.k t.length) L)∧sL t L=L.drop (dI (fun e=>Trie.aM e.k t.length) L):=by
 have h:=z4 t L
 have e:dI (fun e=>Trie.aM e.k t.length) L=(ox t L).length:=rfl
 rw[e]
 generalize ox t L=Z at*
 generalize sL t L=O at*
 subst h
 simp
theorem Dq (e:En) (r:List En):((e::r)[(e::r).length - 1]'(by simp))=r.getLastD e:=by
 rcases List.eq_nil_or_concat r with rfl |⟨r',a,rfl⟩
 ·rfl
 ·rw[List.concat_eq_append,List.getLastD_concat]
  simp
theorem EI (f:Int) (t:Bs) (v:List Int) (z o:Int):D.agg [.int .u8 (aF f t).f,.int .u64 ((aF f t).h:Int),.int .u64 ((aF f t).l:Int),.int .i64 ((aF f t).n:Int),.sl 3 v.isEmpty (gT v),.int .i64 z,.int .i64 o]=jU f ⟨t,v,z,o⟩:=rfl
theorem sC (f:Int) (t:Bs) (z o:Int):D.agg [.int .u8 (aF f t).f,.int .u64 ((aF f t).h:Int),.int .u64 ((aF f t).l:Int),.int .i64 ((aF f t).n:Int),.sl 3 true [],.int .i64 z,.int .i64 o]=jU f ⟨t,[],z,o⟩:=rfl
theorem vF:(∀ f t v z o,(jU f ⟨t,v,z,o⟩).cell 0= .int .u8 (aF f t).f)∧(∀ f t v z o,(jU f ⟨t,v,z,o⟩).cell 1= .int .u64 ((aF f t).h:Int))∧(∀ f t v z o,(jU f ⟨t,v,z,o⟩).cell 2= .int .u64 ((aF f t).l:Int))∧(∀ f t v z o,(jU f ⟨t,v,z,o⟩).cell 3= .int .i64 ((aF f t).n:Int))∧
  (∀ f t v z o,(jU f ⟨t,v,z,o⟩).cell 4= .sl 3 v.isEmpty (gT v))∧(∀ f t v z o,(jU f ⟨t,v,z,o⟩).cell 5= .int .i64 z)∧(∀ f t v z o,(jU f ⟨t,v,z,o⟩).cell 6= .int .i64 o):=⟨fun _ _ _ _ _=>rfl,fun _ _ _ _ _=>rfl,fun _ _ _ _ _=>rfl,fun _ _ _ _ _=>rfl,fun _ _ _ _ _=>rfl,fun _ _ _ _ _=>rfl,fun _ _ _ _ _=>rfl⟩
theorem Ih {f:Int} {nb:Bool} {R:List En} {lw:List D} {t:Bs} {c:Nat} {G1 G2:List D} {z o:Int} (hc:c≤R.length)
  (h1:Cl ty tab 104 [.sl 49 nb ((R.take c).map (iS f)),.ov 69 false (lw++[jU f ⟨t,[],0,0⟩])]=some [.int .i64 z,.ov 69 false ((lw++[jU f ⟨t,[],0,0⟩])++G1)])
  (h2:Cl ty tab 104 [.sl 49 nb ((R.drop c).map (iS f)),.ov 69 false ((lw++[jU f ⟨t,[],0,0⟩])++G1)]=some [.int .i64 o,.ov 69 false (((lw++[jU f ⟨t,[],0,0⟩])++G1)++G2)]):
  bI.j1 (Cl ty tab) 0 nb (R.map (iS f)) lw [(aF f t).d] (c:Int)=some [.int .i64 (lw.length:Nat),.ov 69 false (lw++jU f ⟨t,[],z,o⟩::(G1++G2))]:=by
 unfold bI.j1
 have hlen:(R.map (iS f)).length=R.length:=by simp
 have e1:((R.map (iS f)).drop 0).take (c - 0)=(R.take c).map (iS f):=by rw[List.drop_zero,Nat.sub_zero,List.map_take]
 have e2:((R.map (iS f)).drop c).take (R.length - c)=(R.drop c).map (iS f):=by rw[List.take_of_length_le (by simp),List.map_drop]
 have e3:((lw++[jU f ⟨t,[],0,0⟩])++G1)++G2=lw++jU f ⟨t,[],0,0⟩::(G1++G2):=by simp
 rw[e3]at h2
 have e4:(lw++jU f ⟨t,[],0,0⟩::(G1++G2)).length=lw.length+(G1.length+G2.length+1):=by simp
 simp (disch:=omega) only[ay,hlen,Int.toNat_zero,e1,e2,sC,h1,h2,e4]
 rw[vD,vE]
 simp (disch:=omega) only[ay,vF,sC,List.isEmpty_nil,gT,List.map_nil]
theorem Ii {f:Int} {nb:Bool} {e:En} {R:List En} {lw:List D} {t:Bs} {c:Nat} {G1 G2:List D} {z o:Int} {v:List Int} (hc:c≤R.length) (hv:v.isEmpty=false)
  (h1:Cl ty tab 104 [.sl 49 nb ((R.take c).map (iS f)),.ov 69 false (lw++[jU f ⟨t,v,0,0⟩])]=some [.int .i64 z,.ov 69 false ((lw++[jU f ⟨t,v,0,0⟩])++G1)])
  (h2:Cl ty tab 104 [.sl 49 nb ((R.drop c).map (iS f)),.ov 69 false ((lw++[jU f ⟨t,v,0,0⟩])++G1)]=some [.int .i64 o,.ov 69 false (((lw++[jU f ⟨t,v,0,0⟩])++G1)++G2)]):
  bI.j0 (Cl ty tab) 0 nb ((e::R).map (iS f)) lw [(aF f t).d] [.ov 3 false (gT v)] (c:Int)=some [.int .i64 (lw.length:Nat),.ov 69 false (lw++jU f ⟨t,v,z,o⟩::(G1++G2))]:=by
 unfold bI.j0
 have hlen:((e::R).map (iS f)).length=R.length+1:=by simp
 have lh:(R.map (iS f)).length=R.length:=by simp
 have BM:(((e::R).map (iS f)).drop 1).take (R.length+1 - 1)=R.map (iS f):=by
  show (R.map (iS f)).take R.length=_
  exact List.take_of_length_le (by simp)
 have e1:((R.map (iS f)).drop 0).take (c - 0)=(R.take c).map (iS f):=by rw[List.drop_zero,Nat.sub_zero,List.map_take]
 have e2:((R.map (iS f)).drop c).take (R.length - c)=(R.drop c).map (iS f):=by rw[List.take_of_length_le (by simp),List.map_drop]
 have e3:((lw++[jU f ⟨t,v,0,0⟩])++G1)++G2=lw++jU f ⟨t,v,0,0⟩::(G1++G2):=by simp
 rw[e3]at h2
 have e4:(lw++jU f ⟨t,v,0,0⟩::(G1++G2)).length=lw.length+(G1.length+G2.length+1):=by simp
 have hn':D.agg [.int .u8 (aF f t).f,.int .u64 ((aF f t).h:Int),.int .u64 ((aF f t).l:Int),.int .i64 ((aF f t).n:Int),.sl 3 false (gT v),.int .i64 0,.int .i64 0]=jU f ⟨t,v,0,0⟩:=by rw[←hv];rfl
 have m1:(lw++[jU f ⟨t,[],0,0⟩]).getD lw.length .undef=jU f ⟨t,[],0,0⟩:=vD
 have m2:∀ x,(lw++[jU f ⟨t,[],0,0⟩]).set lw.length x=lw++[x]:=fun x=>vE
 simp (disch:=omega) only[ay,hlen,Int.toNat_zero,Int.toNat_one,BM,lh,e1,e2,sC,m1,m2,vF,hn',h1,h2,e4]
 rw[vD,vE]
 simp (disch:=omega) only[ay,vF,EI]
set_option maxHeartbeats 1000000 in
theorem uf {f:Int}:∀ (N:Nat) (L:List En),L.length≤N→qA L→(∀ e,e∈L→jT f e.k)→(∀ e,e∈L→e.v≠[]∧e.v.length≤5000)→∀ (nb nw:Bool) (lw:List D),lw.length+2*L.length≤100000→
  Cl ty tab 104 [.sl 49 nb (L.map (iS f)),.ov 69 nw lw]=some [.int .i64 (ix L lw.length),.ov 69 (nw&&L.isEmpty) (lw++(bw N lw.length L).map (jU f))]
 |N,[],_,_,_,_,nb,nw,lw,_=>by
  refine mR 0 _ _ _ _ ?_
  unfold bI
  rw[cD]
  simp[ix]
 |0,e::r,h,_,_,_,_,_,_,_=>by simp at h
 |N+1,e::r,hN,hs,hk,hv,nb,nw,lw,hl=>by
  have sp:=fA hs
  have IH:= @uf f N
  have hlen:((e::r).map (iS f)).length=r.length+1:=by simp
  have he:=(hk e (List.mem_cons_self ..)).sp
  have ym:=(hk _ (lN e r)).sp
  have MH:jT f (aI e r):=(hk e (List.mem_cons_self ..)).pre (dm _ _)
  have ht:=MH.sp
  have G8:=De he.1 ym.1 (by rw[he.2.1,ym.2.1])
  have Kk:=sr he.1 ym.1
  rw[he.2.2,ym.2.2]at G8 Kk
  have sR:(aF f e.k).cut (dX e.k (r.getLastD e).k).length=aF f (aI e r):=by
   have h1:=vC (f:=f) Kk.1 he.2.1
   rw[Kk.2]at h1
   exact h1.symm
  rw[sR]at G8
  have MI:(aF f (aI e r)).n=(aI e r).length:=by rw[←(aF f (aI e r)).len,ht.2.2]
  have hdec:=y7 he.1 ht.1 (by rw[he.2.1,ht.2.1])
  rw[he.2.2,ht.2.2]at hdec
  have g0:((e::r).map (iS f)).getD 0 .undef=aB (iR f e):=rfl
  have g1:((e::r).map (iS f)).getD r.length .undef=aB (iR f (r.getLastD e)):=by
   have:((e::r).map (iS f)).getD ((e::r).length - 1) .undef=iS f ((e::r)[(e::r).length - 1]'(by simp)):=aP (by simp)
   rw[Dq,List.length_cons,Nat.add_sub_cancel]at this
   exact this
  have Gf:=hv e (List.mem_cons_self ..)
  have hcl:=oD (nb:=false) (v:=e.v) (by simp) Gf.1 Gf.2
  have Kl:∀ x,x∈aC e r→jT f x.k:=fun x hx=>hk x (dT hx)
  have hrv:∀ x,x∈aC e r→x.v≠[]∧x.v.length≤5000:=fun x hx=>hv x (dT hx)
  have kV:=sp.xP
  have hzc:=EH (aI e r) (aC e r)
  simp only[List.length_cons]at hN hl
  have J6:(aC e r).length≤r.length+1:=by unfold aC;split<;>simp
  have hidx:=fun nb=>EG (f:=f) nb (aC e r) (aF f (aI e r)) MI Kl (by omega)
  have Gy:=Ag (fun x:En=>Trie.aM x.k (aI e r).length) (aC e r)
  have c1:=fun nb Km hb=>IH (ox (aI e r) (aC e r)) (by have:=sp.zl;omega) sp.zs (fun x hx=>Kl x (by rw[←kV];exact List.mem_append_left _ hx)) (fun x hx=>hrv x (by rw[←kV];exact List.mem_append_left _ hx)) nb false Km hb
  have c2:=fun nb Km hb=>IH (sL (aI e r) (aC e r)) (by have:=sp.ol;omega) sp.os (fun x hx=>Kl x (by rw[←kV];exact List.mem_append_right _ hx)) (fun x hx=>hrv x (by rw[←kV];exact List.mem_append_right _ hx)) nb false Km hb
  have HG:∀ b,(bw N b (ox (aI e r) (aC e r))).length≤2*(ox (aI e r) (aC e r)).length - 1:=fun b=>by
   by_cases h0:ox (aI e r) (aC e r)=[]
   ·rw[h0,cD];simp
   ·have:=(oA N b _ sp.zs (by have:=sp.zl;omega) h0).2
    omega
  have I3:(ox (aI e r) (aC e r)).length+(sL (aI e r) (aC e r)).length=(aC e r).length:=by rw[←List.length_append,kV]
  have Br:=fun h=>let t:=sp.two h;And.intro (List.length_pos_iff.2 t.1) (List.length_pos_iff.2 t.2)
  rw[hzc.1]at c1 HG I3 Br
  rw[hzc.2]at c2 I3 Br
  have Fx:bw (N+1) lw.length (e::r)=⟨aI e r,if e.k=aI e r then e.v else [],ix ((aC e r).take (dI (fun x:En=>Trie.aM x.k (aI e r).length) (aC e r))) (lw.length+1),ix ((aC e r).drop (dI (fun x:En=>Trie.aM x.k (aI e r).length) (aC e r))) (lw.length+1+(bw N (lw.length+1) ((aC e r).take (dI (fun x:En=>Trie.aM x.k (aI e r).length) (aC e r)))).length)⟩::
   (bw N (lw.length+1) ((aC e r).take (dI (fun x:En=>Trie.aM x.k (aI e r).length) (aC e r)))++bw N (lw.length+1+(bw N (lw.length+1) ((aC e r).take (dI (fun x:En=>Trie.aM x.k (aI e r).length) (aC e r)))).length) ((aC e r).drop (dI (fun x:En=>Trie.aM x.k (aI e r).length) (aC e r)))):=by
   rw[bw,hzc.1,hzc.2]
  have Lj:aI e r=dX e.k (r.getLastD e).k:=rfl
  rw[Fx]
  clear Fx hzc sp IH kV
  have H6:ix (e::r) lw.length=(lw.length:Nat):=rfl
  rw[H6]
  have Kn:(nw&&(e::r).isEmpty)=false:=by simp
  rw[Kn]
  generalize hT:aF f (aI e r)=T at*
  have hcell:∀ (c:Nat) (R:List En),(R.map (iS f)).take c=(R.take c).map (iS f)∧(R.map (iS f)).drop c=(R.drop c).map (iS f):=fun c R=>⟨List.map_take.symm,List.map_drop.symm⟩
  refine mR 0 _ _ _ _ ?_
  unfold bI
  have al:(lw.length+1)*72≤140737488355328:=by omega
  have EJ:Cl ty tab 105 [.agg [.int .u8 (iR f e).f,.int .u64 ((iR f e).h:Int),.int .u64 ((iR f e).l:Int),.int .i64 (iR f e).n],.agg [.int .u8 (iR f (r.getLastD e)).f,.int .u64 ((iR f (r.getLastD e)).h:Int),.int .u64 ((iR f (r.getLastD e)).l:Int),.int .i64 (iR f (r.getLastD e)).n]]=some [.agg [.int .u8 T.f,.int .u64 (T.h:Int),.int .u64 (T.l:Int),.int .i64 (T.n:Int)]]:=G8
  have ug:(decide ((iR f e).f=T.f)&&(decide (((iR f e).h:Int)=T.h)&&(decide (((iR f e).l:Int)=T.l)&&decide ((iR f e).n=T.n))))=decide (e.k=aI e r):=hdec
  have Ij:Cl ty tab 52 [.sl 3 (iR f e).nb (gT (iR f e).vs)]=some [.ov 3 false (gT e.v)]:=hcl
  generalize hR:aC e r=R at*
  by_cases hown:e.k=aI e r
  ·have hrest:r=R:=by rw[←hR];unfold aC;exact (if_pos hown).symm
   subst hrest
   rw[if_pos hown]
   rw[decide_eq_true hown]at ug
   have BM:(((e::r).map (iS f)).drop 1).take r.length=r.map (iS f):=by
    show (r.map (iS f)).take r.length=_
    exact List.take_of_length_le (by simp)
   have lh:(r.map (iS f)).length=r.length:=by simp
   have Ko:e.v.isEmpty=false:=by simpa using Gf.1
   generalize hc:dI (fun x:En=>Trie.aM x.k (aI e r).length) r=c at*
   have hlt:(r.take c).length+(r.drop c).length=r.length:=I3
   have d1:=c1 nb (lw++[jU f ⟨aI e r,e.v,0,0⟩]) (by rw[List.length_append,List.length_singleton];omega)
   have hg:=HG (lw.length+1)
   have C8:((r.take c).length)≤r.length:=by omega
   rw[List.length_append,List.length_singleton]at d1
   have d2:=c2 nb ((lw++[jU f ⟨aI e r,e.v,0,0⟩])++(bw N (lw.length+1) (r.take c)).map (jU f)) (by rw[List.length_append,List.length_append,List.length_singleton,List.length_map];omega)
   rw[List.length_append,List.length_append,List.length_singleton,List.length_map]at d2
   have hj:=Ii (f:=f) (e:=e) (t:=aI e r) Gy Ko d1 d2
   rw[hT]at hj
   rw[←List.map_append,←List.map_cons]at hj
   have hi:=hidx nb
   have y8:kr (fun x:En=>Trie.aM x.k (aI e r).length) r=if c<r.length then ((c:Nat):Int)else -1:=by unfold kr;rw[hc]
   rw[y8]at hi
   by_cases hcl2:c<r.length
   ·rw[if_pos hcl2]at hi
    simp (disch:=omega) only[ay,hlen,g0,g1,enc,EJ,al,ug,Nat.add_sub_cancel,Int.toNat_one,BM,lh,hi,Ij]
    exact hj
   ·rw[if_neg hcl2]at hi
    have:c=r.length:=by omega
    rw[this]at hj⊢
    simp (disch:=omega) only[ay,hlen,g0,g1,enc,EJ,al,ug,Nat.add_sub_cancel,Int.toNat_one,BM,lh,hi,Ij,Int.reduceNeg,Int.reduceLT]
    exact hj
  ·have hrest:e::r=R:=by rw[←hR];unfold aC;exact (if_neg hown).symm
   subst hrest
   rw[if_neg hown]
   rw[decide_eq_false hown]at ug
   generalize hc:dI (fun x:En=>Trie.aM x.k (aI e r).length) (e::r)=c at*
   have hlt:((e::r).take c).length+((e::r).drop c).length=(e::r).length:=I3
   have hl1:(e::r).length=r.length+1:=rfl
   have ht2:=Br hown
   have d1:=c1 nb (lw++[jU f ⟨aI e r,[],0,0⟩]) (by rw[List.length_append,List.length_singleton];omega)
   have hg:=HG (lw.length+1)
   rw[List.length_append,List.length_singleton]at d1
   have d2:=c2 nb ((lw++[jU f ⟨aI e r,[],0,0⟩])++(bw N (lw.length+1) ((e::r).take c)).map (jU f)) (by rw[List.length_append,List.length_append,List.length_singleton,List.length_map];omega)
   rw[List.length_append,List.length_append,List.length_singleton,List.length_map]at d2
   have hj:=Ih (f:=f) (t:=aI e r) Gy d1 d2
   rw[hT]at hj
   rw[←List.map_append,←List.map_cons (f:=jU f)]at hj
   have hi:=hidx nb
   have y8:kr (fun x:En=>Trie.aM x.k (aI e r).length) (e::r)=if c<r.length+1 then ((c:Nat):Int)else -1:=by unfold kr;rw[hc];rfl
   rw[y8]at hi
   by_cases hcl2:c<r.length+1
   ·rw[if_pos hcl2]at hi
    simp (disch:=omega) only[ay,hlen,g0,g1,enc,EJ,al,ug,Nat.add_sub_cancel,hi]
    exact hj
   ·rw[if_neg hcl2]at hi
    have:c=r.length+1:=by omega
    rw[this]at hj⊢
    simp (disch:=omega) only[ay,hlen,g0,g1,enc,EJ,al,ug,Nat.add_sub_cancel,hi,Int.reduceNeg,Int.reduceLT]
    exact hj
end Go.Proofs.Ytkfnkiejikhglaa.Own
namespace Go.Proofs.Ytkfnkiejikhglaa.Own
open Go Go.Proofs.Ytkfnkiejikhglaa.GD Go.Proofs.Ytkfnkiejikhglaa.GD.Trie Go.Sort
theorem mi {f:Int} (L:List En) (hs:qA L) (hk:∀ e,e∈L→jT f e.k) (hv:∀ e,e∈L→e.v≠[]∧e.v.length≤5000) (hl:L.length≤20000) (nb:Bool):
  Cl ty tab 83 [.sl 49 nb (L.map (iS f))]=some [.ov 69 L.isEmpty ((jB L).map (jU f))]:=by
 refine wW 0 _ _ ?_
 unfold tS
 have h:=uf L.length L (Nat.le_refl _) hs hk hv nb true [] (by rw[List.length_nil];omega)
 simp (disch:=omega) only[ay,h]
 rfl
structure Er.vd (x:Er):Prop where
 r:dR x.h x.l
 c:cy x.f x.h x.l x.n=0
 nb:x.nb=false
 vs:x.vs≠[]∧x.vs.length≤5000
def Er.pf (x:Er):Pf:=⟨x.f,x.h,x.l,x.n.toNat⟩
def Er.en (x:Er):En:=⟨x.pf.bits,x.vs⟩
theorem Er.vd.n0 {x:Er} (h:x.vd):x.n=(x.pf.n:Nat):=by
 have:=h.c
 unfold cy at this
 split at this
 ·cases this
 ·split at this
  ·rename_i hc
   show x.n=(x.n.toNat:Nat)
   omega
  ·cases this
theorem Er.vd.ok {x:Er} (h:x.vd):x.pf.ok:=by
 refine⟨h.r, ?_⟩
 show cy x.f x.h x.l (x.pf.n:Nat)=0
 rw[←h.n0]
 exact h.c
theorem Er.vd.Ik {x:Er} (h:x.vd):aB x=iS x.f x.en:=by
 unfold iS iR Er.en
 dsimp only
 rw[show x.f=x.pf.f from rfl,vB h.ok]
 have:=h.n0
 have h2:=h.nb
 obtain⟨f,hh,l,n,nb,vs⟩:=x
 dsimp only at this h2
 subst h2
 simp only[Er.pf]at this⊢
 rw[←this]
theorem Er.vd.Kp {x:Er} (h:x.vd):jT x.f x.en.k:=⟨x.pf,h.ok,rfl,rfl⟩
theorem Er.vd.DI {x:Er} (h:x.vd):x.f=4∨x.f=6:=by
 rcases h.ok.DI with⟨h,_⟩ |⟨h,_⟩
 ·exact .inl h
 ·exact .inr h
theorem vG {x y:Er} (hx:x.vd) (hy:y.vd):aD x y=true↔x.f<y.f∨(x.f=y.f∧fM x.en.k y.en.k=true):=by
 unfold aD xi
 rw[hx.n0,hy.n0]
 have:=z8 hx.ok hy.ok
 rw[decide_eq_true_eq]
 rw[show sT x.f x.h x.l (x.pf.n:Nat) y.f y.h y.l (y.pf.n:Nat)=Bv x.pf y.pf from this]
 exact z9
theorem Dr {x y:Er} (hx:x.vd) (hy:y.vd) (hf:x.f=y.f) (hk:x.en.k=y.en.k):x.px=y.px:=by
 have h1:=sj hx.ok hy.ok hf hk
 have h2:x.h=y.h:=congrArg Pf.h h1
 have h3:x.l=y.l:=congrArg Pf.l h1
 have h4:x.n=y.n:=by rw[hx.n0,hy.n0,h1]
 unfold Er.px
 rw[hf,h2,h3,h4]
def cE (xs:List Er):List Er:=(sort aD xs.toArray).toList
theorem dV (xs:List Er):(cE xs).Perm xs:=(xm xs).1
theorem oF {xs:List Er} (h:∀ x,x∈xs→x.vd) (hd:xs.Pairwise fun a b=>a.px≠b.px):(cE xs).Pairwise fun a b=>aD a b=true:=by
 have h1:=(xm xs).2
 have h2:(cE xs).Pairwise fun a b=>a.px≠b.px:=((dV xs).pairwise_iff (fun h=>Ne.symm h)).2 hd
 have h3:∀ x,x∈cE xs→x.vd:=fun x hx=>h x ((dV xs).mem_iff.1 hx)
 have h4:=List.Pairwise.and h1 h2
 refine h4.imp_of_mem fun {a b} ha hb jC=> ?_
 have va:=h3 a ha
 have vb:=h3 b hb
 rw[vG va vb]
 have hn: ¬(b.f<a.f∨(b.f=a.f∧fM b.en.k a.en.k=true)):=by rw[←vG vb va,jC.1];simp
 by_cases hf:a.f=b.f
 ·refine .inr ⟨hf, ?_⟩
  rcases ow a.en.k b.en.k with g |g |g
  ·exact g
  ·exact absurd (Dr va vb hf g) jC.2
  ·exact absurd (.inr ⟨hf.symm,g⟩) hn
 ·left;omega
def cj (f:Int) (xs:List Er):List En:=((cE xs).filter fun x=>decide (x.f=f)).map Er.en
theorem mq {f:Int} {xs:List Er} (h:∀ x,x∈xs→x.vd) (hd:xs.Pairwise fun a b=>a.px≠b.px):qA (cj f xs)∧(∀ e,e∈cj f xs→jT f e.k)∧(∀ e,e∈cj f xs→e.v≠[]∧e.v.length≤5000)∧(cj f xs).length≤xs.length:=by
 have h3:∀ x,x∈cE xs→x.vd:=fun x hx=>h x ((dV xs).mem_iff.1 hx)
 refine⟨?_,fun e he=> ?_,fun e he=> ?_, ?_⟩
 ·unfold cj qA
  rw[List.pairwise_map]
  refine ((oF h hd).filter _).imp_of_mem fun {a b} ha hb jC=> ?_
  rw[List.mem_filter]at ha hb
  have e1:a.f=f:=by simpa using ha.2
  have e2:b.f=f:=by simpa using hb.2
  rcases (vG (h3 a ha.1) (h3 b hb.1)).1 jC with g |g
  ·omega
  ·exact g.2
 ·obtain⟨x,hx,rfl⟩:=List.mem_map.1 he
  rw[List.mem_filter]at hx
  have e1:x.f=f:=by simpa using hx.2
  have:=(h3 x hx.1).Kp
  rwa [e1]at this
 ·obtain⟨x,hx,rfl⟩:=List.mem_map.1 he
  rw[List.mem_filter]at hx
  exact (h3 x hx.1).vs
 ·unfold cj
  rw[List.length_map]
  have:=List.length_filter_le (fun x:Er=>decide (x.f=f)) (cE xs)
  rw[(dV xs).length_eq]at this
  exact this
theorem EK (x:Er):Cl ty tab 82 [aB x]=some [.bool (decide (x.f=6))]:=by
 unfold aB
 refine rN 0 _ _ _ _ _ _ ?_
 unfold og
 simp (disch:=omega) only[ay]
theorem EL (nb:Bool) (L:List Er) (hl:L.length≤100000):Cl ty tab 66 [.sl 49 nb (L.map aB),.fn 82 []]=
  some [.int .i64 (kr (fun x=>decide (x.f=6)) L)]:=by
 obtain⟨k,hk⟩:=bY
 refine kN k _ _ ?_
 unfold bz
 have hlen:(L.map aB).length=L.length:=by simp
 have:=bP (F:=bz.b0 (Cl ty tab) k (L.map aB)) L.length (fun i=>[.int .i64 i])
  (fun i=>some [.int .i64 (if dI (fun x:Er=>decide (x.f=6)) (L.drop i)<(L.drop i).length then ((i+dI (fun x:Er=>decide (x.f=6)) (L.drop i):Nat):Int)else -1)]) (fun i hi again ha=> ?_) (fun again=> ?_) k (by omega) 0 (by omega)
 ·rw[List.drop_zero]at this
  simpa[kr]using this
 ·unfold bz.b0
  rw[ue hi]
  have g:(L.map aB).getD i .undef=aB L[i]:=aP hi
  generalize L[i]=x at*
  have hb:=EK x
  by_cases oE:x.f=6
  ·rw[decide_eq_true oE]at hb⊢
   simp (disch:=omega) only[ay,hlen,g,enc,hb]
  ·rw[decide_eq_false oE]at hb⊢
   simp (disch:=omega) only[ay,hlen,g,enc,hb,Int.natCast_add,Int.natCast_one]at ha⊢
   exact ha
 ·unfold bz.b0
  rw[List.drop_length]
  simp (disch:=omega) only[ay,hlen]
  simp[dI]
theorem BC (nb:Bool) (xs:List Er) (hnb:nb=true→xs=[]) (hl:xs.length≤20000):∃ nb',Cl ty tab 80 [.sl 49 nb (xs.map aB),.fn 81 []]=some [.ov 49 nb' ((cE xs).map aB)]:=by
 have hlen:(xs.map aB).length=xs.length:=by simp
 have hc:∃ nb',Cl ty tab 100 [.sl 49 nb (xs.map aB)]=some [.ov 49 nb' (xs.map aB)]:=by
  cases nb
  ·refine⟨false, ?_⟩
   refine iH 0 _ _ ?_
   unfold fU
   simp (disch:=omega) only[ay,hlen,show (0+xs.length)*56≤140737488355328 by omega]
  ·refine⟨true, ?_⟩
   rw[hnb rfl]
   refine iH 0 _ _ ?_
   unfold fU
   simp (disch:=omega) only[ay]
   rfl
 obtain⟨nb',hc⟩:=hc
 refine⟨nb', ?_⟩
 refine sQ 0 _ _ ?_
 unfold pW
 have hs:=EE nb' xs (by omega)
 simp (disch:=omega) only[ay,hc,hs]
 rfl
theorem Ah {L:List Er} (h:∀ x,x∈L→x.vd) (hs:L.Pairwise fun a b=>aD a b=true):L.take (dI (fun x:Er=>decide (x.f=6)) L)=L.filter (fun x=>decide (x.f=4))∧L.drop (dI (fun x:Er=>decide (x.f=6)) L)=L.filter fun x=>decide (x.f=6):=by
 induction L with
 |nil=>simp
 |cons a L ih=>
  obtain⟨h1,h2⟩:=List.pairwise_cons.1 hs
  have va:=h a (List.mem_cons_self ..)
  by_cases ha:a.f=6
  ·have hall:∀ x,x∈L→x.f=6:=fun x hx=>by
    have vx:=h x (List.mem_cons_of_mem _ hx)
    rcases (vG va vx).1 (h1 x hx)with g |g
    ·rcases vx.DI with e |e<;>omega
    ·omega
   have e0:dI (fun x:Er=>decide (x.f=6)) (a::L)=0:=by simp[dI,ha]
   rw[e0]
   constructor
   ·rw[List.take_zero]
    exact (jn fun x hx=>by
     rcases List.mem_cons.1 hx with rfl |hx
     ·simp[ha]
     ·simp[hall x hx]).symm
   ·rw[List.drop_zero]
    exact (List.filter_eq_self.2 fun x hx=>by
     rcases List.mem_cons.1 hx with rfl |hx
     ·simp[ha]
     ·simp[hall x hx]).symm
  ·have h4:a.f=4:=by rcases va.DI with e |e;exact e;exact absurd e ha
   obtain⟨i1,i2⟩:=ih (fun x hx=>h x (List.mem_cons_of_mem _ hx)) h2
   have e0:dI (fun x:Er=>decide (x.f=6)) (a::L)=dI (fun x:Er=>decide (x.f=6)) L+1:=by simp[dI,ha]
   rw[e0,List.take_succ_cons,List.drop_succ_cons,i1,i2,List.filter_cons,List.filter_cons,if_pos (by simp[h4]),if_neg (by simp[ha])]
   exact⟨rfl,rfl⟩
theorem Ai {f:Int} {L:List Er} (h:∀ x,x∈L→x.vd):(L.filter fun x=>decide (x.f=f)).map aB=((L.filter fun x=>decide (x.f=f)).map Er.en).map (iS f):=by
 rw[List.map_map]
 refine List.map_congr_left fun x hx=> ?_
 rw[List.mem_filter]at hx
 have e1:x.f=f:=by simpa using hx.2
 have:=(h x hx.1).Ik
 rw[this,e1]
 rfl
noncomputable def sD (f:Int) (xs:List Er):D:= .sl 69 (cj f xs).isEmpty ((jB (cj f xs)).map (jU f))
theorem Ds (nb:Bool) (xs:List Er) (hnb:nb=true→xs=[]) (hl:xs.length≤20000) (h:∀ x,x∈xs→x.vd) (hd:xs.Pairwise fun a b=>a.px≠b.px):
  Cl ty tab 46 [.sl 49 nb (xs.map aB)]=some [.agg [sD 4 xs,sD 6 xs]]:=by
 obtain⟨nb',hs⟩:=BC nb xs hnb hl
 refine u4 0 _ _ ?_
 unfold rR
 have h3:∀ x,x∈cE xs→x.vd:=fun x hx=>h x ((dV xs).mem_iff.1 hx)
 have I4:=Ah h3 (oF h hd)
 have GU:(cE xs).length=xs.length:=(dV xs).length_eq
 have hi:=EL nb' (cE xs) (by omega)
 have Gy:=Ag (fun x:Er=>decide (x.f=6)) (cE xs)
 unfold kr at hi
 have g4:=mq (f:=4) h hd
 have g6:=mq (f:=6) h hd
 have o4:=mi (cj 4 xs) g4.1 g4.2.1 g4.2.2.1 (by omega) nb'
 have o6:=mi (cj 6 xs) g6.1 g6.2.1 g6.2.2.1 (by omega) nb'
 have m4:=Ai (f:=4) h3
 have m6:=Ai (f:=6) h3
 rw[←I4.1]at m4
 rw[←I4.2]at m6
 have f4:cj 4 xs=((cE xs).take (dI (fun x:Er=>decide (x.f=6)) (cE xs))).map Er.en:=by unfold cj;rw[I4.1]
 have f6:cj 6 xs=((cE xs).drop (dI (fun x:Er=>decide (x.f=6)) (cE xs))).map Er.en:=by unfold cj;rw[I4.2]
 rw[←f4]at m4
 rw[←f6]at m6
 rw[←m4]at o4
 rw[←m6]at o6
 unfold sD
 generalize hc:dI (fun x:Er=>decide (x.f=6)) (cE xs)=c at*
 have hlen:((cE xs).map aB).length=(cE xs).length:=by simp
 have t4:(((cE xs).map aB).drop 0).take (c - 0)=((cE xs).take c).map aB:=by rw[List.drop_zero,Nat.sub_zero,List.map_take]
 have t6:(((cE xs).map aB).drop c).take ((cE xs).length - c)=((cE xs).drop c).map aB:=by rw[List.take_of_length_le (by simp),List.map_drop]
 by_cases hcl:c<(cE xs).length
 ·rw[if_pos hcl]at hi
  simp (disch:=omega) only[ay,hs,hi,hlen,Int.toNat_zero,t4,t6,o4,o6]
 ·rw[if_neg hcl]at hi
  have hce:c=(cE xs).length:=by omega
  rw[hce]at t4 t6 o4 o6
  simp (disch:=omega) only[ay,hs,hi,hlen,Int.toNat_zero,Int.reduceNeg,Int.reduceLT,t4,t6,o4,o6]
end Go.Proofs.Ytkfnkiejikhglaa.Own
namespace Go.Proofs.Ytkfnkiejikhglaa.Own
open Go Go.Proofs.Ytkfnkiejikhglaa.GD Go.Proofs.Ytkfnkiejikhglaa.GD.Trie Go.Sort
def Nr.core (x:Nr):Px×List Int×Int×Int:=(⟨x.f,x.h,x.l,x.n⟩,x.vs,x.c0,x.c1)
theorem pr {v:List Int} {i:Nat} (h:i<v.length):(gT v).getD i .undef= .int .i64 v[i]:=aP h
theorem oG {α:Type} [DecidableEq α] {a b:List α} {i:Nat} (ha:i<a.length) (hb:i<b.length):decide (a.drop i=b.drop i)=(decide (a[i]=b[i])&&decide (a.drop (i+1)=b.drop (i+1))):=by
 rw[←Bool.decide_and]
 exact decide_eq_decide.2 (by rw[List.drop_eq_getElem_cons ha,List.drop_eq_getElem_cons hb,List.cons.injEq])
theorem Dt (n1 n2:Bool) (a b:List Int) (hl:a.length≤9223372036854775807):Cl ty tab 84 [.sl 3 n1 (gT a),.sl 3 n2 (gT b)]=some [.bool (decide (a=b))]:=by
 obtain⟨k,hk⟩:=bY
 refine rS k _ _ _ _ ?_
 unfold c_
 have h1:(gT a).length=a.length:=by simp
 have h2:(gT b).length=b.length:=by simp
 by_cases he:a.length=b.length
 ·have:=bP (F:=c_.b0 (Cl ty tab) k (gT a) (gT b)) a.length (fun i=>[.int .i64 i]) (fun i=>some [.bool (decide (a.drop i=b.drop i))]) (fun i hi again ha=> ?_) (fun again=> ?_) k (by omega) 0 (by omega)
  ·rw[List.drop_zero,List.drop_zero]at this
   simp (disch:=omega) only[ay,h1,h2,he,ne_eq,not_true_eq_false]
   simpa using this
  ·unfold c_.b0
   rw[oG hi (by omega)]
   have g1:=pr hi
   have g2:=pr (show i<b.length by omega)
   by_cases hx:a[i]=b[i]
   ·have hlt:(i:Int)<((b.length:Nat):Int):=by omega
    simp (disch:=omega) only[ay,h1,h2,g1,g2,hx,ne_eq,not_true_eq_false,Int.natCast_add,Int.natCast_one]at ha⊢
    exact ha
   ·simp (disch:=omega) only[ay,h1,h2,g1,g2,hx,ne_eq,not_false_eq_true]
  ·unfold c_.b0
   have:b.drop a.length=[]:=List.drop_eq_nil_of_le (by omega)
   rw[List.drop_length,this]
   simp (disch:=omega) only[ay,h1,h2]
 ·have hne: ¬a=b:=fun h=>he (by rw[h])
  have: ¬((a.length:Nat):Int)=((b.length:Nat):Int):=by omega
  simp (disch:=omega) only[ay,h1,h2,this,hne,ne_eq,not_false_eq_true]
theorem EM (x y:Nr) (hl:x.vs.length≤9223372036854775807):Cl ty tab 48 [bL x,bL y]=some [.bool (decide (x.core=y.core))]:=by
 have:=qm 0 (bL x) (bL y) (r:=[.bool (decide (x.core=y.core))]) ?_
 ·exact this
 unfold mS Nr.core
 have he:=Dt x.nb y.nb x.vs y.vs hl
 by_cases h1:x.f=y.f
 ·by_cases h2:x.h=y.h
  ·by_cases h3:x.l=y.l
   ·by_cases h4:x.n=y.n
    ·by_cases h5:x.c0=y.c0
     ·by_cases h6:x.c1=y.c1
      ·simp (disch:=omega) only[ay,pp,h1,h2,h3,h4,h5,h6,he]
       simp
      ·simp (disch:=omega) only[ay,pp,h1,h2,h3,h4,h5,h6,he]
       simp[h6]
     ·simp (disch:=omega) only[ay,pp,h1,h2,h3,h4,h5,he]
      simp[h5]
    ·simp (disch:=omega) only[ay,pp,h1,h2,h3,h4,he]
     simp[h4]
   ·have: ¬(x.l:Int)=y.l:=by omega
    simp (disch:=omega) only[ay,pp,h1,h2,this,he]
    simp[h3]
  ·have: ¬(x.h:Int)=y.h:=by omega
   simp (disch:=omega) only[ay,pp,h1,this,he]
   simp[h2]
 ·simp (disch:=omega) only[ay,pp,h1,he]
  simp[h1]
theorem y9 (x:Nr):D.agg (ck ks0 (bL x) 0)=bL x:=rfl
theorem Du (n1 n2:Bool) (a b:List Nr) (hl:a.length≤9223372036854775807) (hv:∀ x,x∈a→x.vs.length≤5000):Cl ty tab 47 [.sl 69 n1 (a.map bL),.sl 69 n2 (b.map bL),.fn 48 []]=some [.bool (decide (a.map Nr.core=b.map Nr.core))]:=by
 obtain⟨k,hk⟩:=bY
 refine nm k _ _ _ _ ?_
 unfold b7
 have h1:(a.map bL).length=a.length:=by simp
 have h2:(b.map bL).length=b.length:=by simp
 by_cases he:a.length=b.length
 ·have:=bP (F:=b7.b0 (Cl ty tab) k (a.map bL) (b.map bL)) a.length (fun i=>[.int .i64 i]) (fun i=>some [.bool (decide ((a.map Nr.core).drop i=(b.map Nr.core).drop i))]) (fun i hi again ha=> ?_) (fun again=> ?_) k (by omega) 0 (by omega)
  ·rw[List.drop_zero,List.drop_zero]at this
   simp (disch:=omega) only[ay,h1,h2,he,ne_eq,not_true_eq_false]
   simpa using this
  ·unfold b7.b0
   rw[oG (by simpa using hi) (by simpa using (by omega:i<b.length))]
   rw[List.getElem_map,List.getElem_map]
   have I5:=hv a[i] (List.getElem_mem hi)
   have g1:(a.map bL).getD i .undef=bL a[i]:=aP hi
   have g2:(b.map bL).getD i .undef=bL b[i]:=aP (by omega)
   have hs:=EM a[i] b[i] (by omega)
   have hlt:(i:Int)<((b.length:Nat):Int):=by omega
   have gL:(i:Int)<((a.length:Nat):Int):=by omega
   generalize a[i]=x at*
   generalize b[i]=y at*
   by_cases hx:x.core=y.core
   ·rw[decide_eq_true hx]at hs⊢
    simp (disch:=omega) only[ay,h1,h2,g1,g2,y9,hs,Int.natCast_add,Int.natCast_one]at ha⊢
    exact ha
   ·rw[decide_eq_false hx]at hs⊢
    simp (disch:=omega) only[ay,h1,h2,g1,g2,y9,hs]
  ·unfold b7.b0
   have e1:(a.map Nr.core).drop a.length=[]:=List.drop_eq_nil_of_le (by simp)
   have e2:(b.map Nr.core).drop a.length=[]:=List.drop_eq_nil_of_le (by simp;omega)
   rw[e1,e2]
   simp (disch:=omega) only[ay,h1,h2]
 ·have hne: ¬a.map Nr.core=b.map Nr.core:=fun h=>he (by have:=congrArg List.length h;simpa using this)
  have: ¬((a.length:Nat):Int)=((b.length:Nat):Int):=by omega
  simp (disch:=omega) only[ay,h1,h2,this,hne,ne_eq,not_false_eq_true]
noncomputable def b8 (f:Int) (xs:List Er):List Nr:=(jB (cj f xs)).map (pq f)
theorem uh (f:Int) (xs:List Er):sD f xs= .sl 69 (cj f xs).isEmpty ((b8 f xs).map bL):=by
 unfold sD b8 jU
 rw[List.map_map]
 rfl
structure vH (A B:List Nr):Prop where
 a:A.length≤4000
 b:B.length≤4000
 c:ey [] (aw (A++B))=0
 ga:A.map Nr.core=(b8 4 (aw (A++B))).map Nr.core
 gb:B.map Nr.core=(b8 6 (aw (A++B))).map Nr.core
open Classical in
noncomputable def eM (A B:List Nr):Int:=if 4000<A.length∨4000<B.length then 4 else if vH A B then 0 else 8
theorem BD {v:List Int} (h:gU v=true):v≠[]∧v.length≤4000:=by
 unfold gU at h
 simp only[zq3,Bool.not_eq_true',List.isEmpty_eq_false_iff,decide_eq_true_eq]at h
 exact⟨h.1,h.2.1⟩
theorem Dv {xs:List Er} (hg:∀ x,x∈xs→x.de) (h:ey [] xs=0):(∀ x,x∈xs→x.vd)∧xs.Pairwise fun a b=>a.px≠b.px:=by
 obtain⟨h1,h2⟩:=qb h
 refine⟨fun x hx=> ?_,h2⟩
 obtain⟨c1,c2,_⟩:=h1 x hx
 have hv:=BD c2
 refine⟨(hg x hx).r,c1, ?_,hv.1,by omega⟩
 cases hn:x.nb
 ·rfl
 ·exact absurd ((hg x hx).nb hn) hv.1
theorem pt {L:List Nr} (h:∀ x,x∈L→x.de):∀ x,x∈aw L→x.de:=by
 intro x hx
 obtain⟨y,hy,rfl⟩:=List.mem_map.1 hx
 rw[List.mem_filter]at hy
 exact⟨(h y hy.1).r,fun h=>by cases h⟩
theorem ui (n1 n2:Bool) (A B:List Nr) (hA:∀ x,x∈A→x.de∧x.vs.length≤5000) (hB:∀ x,x∈B→x.de∧x.vs.length≤5000) (lA:A.length≤5000) (lB:B.length≤5000):
  Cl ty tab 18 [.agg [.sl 69 n1 (A.map bL),.sl 69 n2 (B.map bL)]]=some [.int .i64 (eM A B)]:=by
 refine u5 0 _ _ _ _ ?_
 unfold rU eM
 have h1:(A.map bL).length=A.length:=by simp
 have h2:(B.map bL).length=B.length:=by simp
 by_cases l1:4000<A.length
 ·have:(4000:Int)<((A.length:Nat):Int):=by omega
  rw[if_pos (.inl l1)]
  simp (disch:=omega) only[ay,h1,this]
 by_cases l2:4000<B.length
 ·have e1: ¬(4000:Int)<((A.length:Nat):Int):=by omega
  have e2:(4000:Int)<((B.length:Nat):Int):=by omega
  rw[if_pos (.inr l2)]
  simp (disch:=omega) only[ay,h1,h2,e1,e2]
 rw[if_neg (by omega)]
 have e1: ¬(4000:Int)<((A.length:Nat):Int):=by omega
 have e2: ¬(4000:Int)<((B.length:Nat):Int):=by omega
 have hh:=EF n1 n2 A B hA hB lA lB
 have qU:=pt (L:=A++B) (fun x hx=>(List.mem_append.1 hx).elim (fun h=>(hA x h).1) fun h=>(hB x h).1)
 have Kq:=cT (A++B)
 rw[List.length_append]at Kq
 have hc:=Dp (aw (A++B)).isEmpty (aw (A++B)) qU (by omega)
 have xr:vH A B→ey [] (aw (A++B))=0:=fun h=>h.c
 by_cases hz:ey [] (aw (A++B))=0
 ·obtain⟨v1,v2⟩:=Dv qU hz
  have hp:=Ds (aw (A++B)).isEmpty (aw (A++B)) (fun h=>by simpa using h) (by omega) v1 v2
  rw[uh,uh]at hp
  have q1:=Du n1 (cj 4 (aw (A++B))).isEmpty A (b8 4 (aw (A++B))) (by omega) (fun x hx=>(hA x hx).2)
  have q2:=Du n2 (cj 6 (aw (A++B))).isEmpty B (b8 6 (aw (A++B))) (by omega) (fun x hx=>(hB x hx).2)
  rw[hz]at hc
  by_cases c1:A.map Nr.core=(b8 4 (aw (A++B))).map Nr.core
  ·rw[decide_eq_true c1]at q1
   by_cases c2:B.map Nr.core=(b8 6 (aw (A++B))).map Nr.core
   ·rw[decide_eq_true c2]at q2
    rw[if_pos ⟨by omega,by omega,hz,c1,c2⟩]
    simp (disch:=omega) only[ay,h1,h2,e1,e2,hh,hc,hp,q1,q2,ne_eq,not_true_eq_false]
   ·rw[decide_eq_false c2]at q2
    rw[if_neg fun h=>c2 h.gb]
    simp (disch:=omega) only[ay,h1,h2,e1,e2,hh,hc,hp,q1,q2,ne_eq,not_true_eq_false]
  ·rw[decide_eq_false c1]at q1
   rw[if_neg fun h=>c1 h.ga]
   simp (disch:=omega) only[ay,h1,h2,e1,e2,hh,hc,hp,q1,ne_eq,not_true_eq_false]
 ·rw[if_neg fun h=>hz h.c]
  simp (disch:=omega) only[ay,h1,h2,e1,e2,hh,hc,hz,ne_eq,not_false_eq_true]
structure xt (A:List Nr):Prop where
 l:A.length≤60∨(4000<A.length∧A.length≤4010)
 v:∀ x,x∈A→x.vs.length≤100
theorem uj (nb:Bool) (A:List Nr) (hl:A.length≤9223372036854775807):∃ b,Cl ty tab 35 [.sl 69 nb (A.map bL)]=some [.bool b]∧(b=false→xt A):=by
 obtain⟨k,hk⟩:=bY
 have h1:(A.map bL).length=A.length:=by simp
 have hb:A.any (fun x=>decide (100<x.vs.length))=false→∀ x,x∈A→x.vs.length≤100:=fun h x hx=>by
  rw[List.any_eq_false]at h
  have:=h x hx
  simpa using this
 have lp:∀ F:List D→(List D→Option (List D))→Option (List D),(∀ vs again,F vs again=aE.b0 (Cl ty tab) k (A.map bL) vs again)→iter k F [.int .i64 0]=some [.bool (A.any fun x=>decide (100<x.vs.length))]:=fun F hF=>by
  refine Bo (F:=F) A (fun i=>[.int .i64 i]) (fun l=>some [.bool (l.any fun x=>decide (100<x.vs.length))]) (fun i hi again ha=> ?_) (fun again=> ?_) k (by omega)
  ·rw[hF]
   unfold aE.b0
   have g:(A.map bL).getD i .undef=bL A[i]:=aP hi
   rw[List.any_cons]
   generalize A[i]=x at*
   by_cases hx:100<x.vs.length
   ·have:(100:Int)<((x.vs.length:Nat):Int):=by omega
    simp (disch:=omega) only[ay,h1,g,pp,hx,this]
   ·have: ¬(100:Int)<((x.vs.length:Nat):Int):=by omega
    simp (disch:=omega) only[ay,h1,g,pp,hx,this,Int.natCast_add,Int.natCast_one]at ha⊢
    exact ha
  ·rw[hF]
   unfold aE.b0
   simp (disch:=omega) only[ay,h1,List.any_nil]
 by_cases a1:60<A.length
 ·have b1:(60:Int)<((A.length:Nat):Int):=by omega
  by_cases a2:A.length≤4000
  ·refine⟨true,bQ k _ _ ?_,by simp⟩
   unfold aE
   have b2:((A.length:Nat):Int)≤4000:=by omega
   simp (disch:=omega) only[ay,h1,b1,b2]
  ·have b2: ¬((A.length:Nat):Int)≤4000:=by omega
   by_cases a3:4010<A.length
   ·refine⟨true,bQ k _ _ ?_,by simp⟩
    unfold aE
    have b3:(4010:Int)<((A.length:Nat):Int):=by omega
    simp (disch:=omega) only[ay,h1,b1,b2,b3]
   ·refine⟨_,bQ k _ _ ?_,fun h=>⟨.inr ⟨by omega,by omega⟩,hb h⟩⟩
    unfold aE
    have b3: ¬(4010:Int)<((A.length:Nat):Int):=by omega
    simp (disch:=omega) only[ay,h1,b1,b2,b3]
    exact lp _ fun _ _=>rfl
 ·have b1: ¬(60:Int)<((A.length:Nat):Int):=by omega
  have b3: ¬(4010:Int)<((A.length:Nat):Int):=by omega
  refine⟨_,bQ k _ _ ?_,fun h=>⟨.inl (by omega),hb h⟩⟩
  unfold aE
  simp (disch:=omega) only[ay,h1,b1,b3]
  exact lp _ fun _ _=>rfl
theorem Dw (n1 n2:Bool) (A B:List Nr) (l1:A.length≤9223372036854775807) (l2:B.length≤9223372036854775807):∃ b,Cl ty tab 9 [.agg [.sl 69 n1 (A.map bL),.sl 69 n2 (B.map bL)]]=some [.bool b]∧(b=false→xt A∧xt B):=by
 obtain⟨x,hx,gx⟩:=uj n1 A l1
 obtain⟨y,hy,gy⟩:=uj n2 B l2
 refine⟨x ||y,kM 0 _ _ _ _ ?_,fun h=> ?_⟩
 ·unfold g7
  cases x
  ·simp (disch:=omega) only[ay,hx,hy]
  ·simp (disch:=omega) only[ay,hx]
 ·simp only[Bool.or_eq_false_iff]at h
  exact⟨gx h.1,gy h.2⟩
end Go.Proofs.Ytkfnkiejikhglaa.Own
namespace Go.Proofs.Ytkfnkiejikhglaa.Own
open Go Go.Proofs.Ytkfnkiejikhglaa.GD Go.Proofs.Ytkfnkiejikhglaa.GD.Trie Go.Sort
structure EN (f:Int) (x:Nr) (g:Nd):Prop where
 fm:x.f=(aF f g.k).f
 h:x.h=(aF f g.k).h
 l:x.l=(aF f g.k).l
 n:x.n=((aF f g.k).n:Nat)
 vs:x.vs=g.v
 c0:x.c0=g.c0
 c1:x.c1=g.c1
theorem Il {f:Int} {A:List Nr} {G:List Nd} (h:A.map Nr.core=(G.map (pq f)).map Nr.core):A.length=G.length∧∀ (i:Nat) (x:Nr) (g:Nd),A[i]? =some x→G[i]? =some g→EN f x g:=by
 refine⟨by have:=congrArg List.length h;simpa using this,fun i x g hx hg=> ?_⟩
 have h1:(A.map Nr.core)[i]? =some x.core:=by rw[List.getElem?_map,hx];rfl
 have h2:((G.map (pq f)).map Nr.core)[i]? =some (pq f g).core:=by rw[List.getElem?_map,List.getElem?_map,hg];rfl
 rw[h,h2]at h1
 have:=Option.some.inj h1
 simp only[Nr.core,pq,Prod.mk.injEq,Px.mk.injEq]at this
 obtain⟨⟨a1,a2,a3,a4⟩,a5,a6,a7⟩:=this
 exact⟨a1.symm,a2.symm,a3.symm,a4.symm,a5.symm,a6.symm,a7.symm⟩
theorem EN.px {f:Int} {x:Nr} {g:Nd} (h:EN f x g):P4 x.f x.h x.l x.n=(aF f g.k).d:=by rw[h.fm,h.h,h.l,h.n]
theorem sE {f:Int}:∀ (n base:Nat) (l:List En),qA l→(∀ e,e∈l→jT f e.k)→l.length≤n→∀ g,g∈bw n base l→jT f g.k
 |n,base,[],_,_,_,g,hg=>by rw[cD]at hg;cases hg
 |0,base,e::r,_,_,h,g,hg=>by simp at h
 |n+1,base,e::r,BN,hk',h,g,hg=>by
  have sp:=fA BN
  simp only[List.length_cons]at h
  have hr:∀ x,x∈aC e r→jT f x.k:=fun x hx=>hk' x (dT hx)
  simp only[bw]at hg
  rcases List.mem_cons.1 hg with rfl |hg
  ·exact (hk' e (List.mem_cons_self ..)).pre (dm _ _)
  rcases List.mem_append.1 hg with hg |hg
  ·exact sE n _ _ sp.zs (fun x hx=>hr x (by rw[←sp.xP];exact List.mem_append_left _ hx)) (by have:=sp.zl;omega) g hg
  ·exact sE n _ _ sp.os (fun x hx=>hr x (by rw[←sp.xP];exact List.mem_append_right _ hx)) (by have:=sp.ol;omega) g hg
theorem uk {f:Int} {L:List En} (hs:qA L) (hk:∀ e,e∈L→jT f e.k):∀ g,g∈jB L→jT f g.k:=sE L.length 0 L hs hk (Nat.le_refl _)
end Go.Proofs.Ytkfnkiejikhglaa.Own
namespace Go.Proofs.Ytkfnkiejikhglaa.Own
open Go Go.Proofs.Ytkfnkiejikhglaa.GD Go.Proofs.Ytkfnkiejikhglaa.GD.Trie Go.Sort
theorem Er.vd.back {x:Er} (h:x.vd):iR x.f x.en=x:=by
 unfold iR Er.en
 dsimp only
 rw[show x.f=x.pf.f from rfl,vB h.ok]
 have:=h.n0
 have h2:=h.nb
 obtain⟨f,hh,l,n,nb,vs⟩:=x
 dsimp only at this h2
 subst h2
 simp only[Er.pf]at this⊢
 rw[←this]
theorem xu (f:Int) (G:List Nd):aw (G.map (pq f))=(own G).map (iR f):=by
 unfold aw own
 rw[List.filter_map,List.map_map,List.map_map]
 rfl
theorem xv {xs:List Er} (h:∀ x,x∈xs→x.vd):∀ x,x∈cE xs→x.vd:=fun x hx=>h x ((dV xs).mem_iff.1 hx)
theorem sF {f:Int} {xs:List Er} (h:∀ x,x∈xs→x.vd) (hd:xs.Pairwise fun a b=>a.px≠b.px):aw (b8 f xs)=(cE xs).filter fun x=>decide (x.f=f):=by
 have g:=mq (f:=f) h hd
 unfold b8
 rw[xu,show own (jB (cj f xs))=cj f xs from oz _ _ _ g.1 (Nat.le_refl _) fun e he=>(g.2.2.1 e he).1]
 unfold cj
 rw[List.map_map]
 refine (List.map_congr_left fun x hx=> ?_).trans (List.map_id _)
 rw[List.mem_filter]at hx
 have e1:x.f=f:=by simpa using hx.2
 have:=(xv h x hx.1).back
 rw[e1]at this
 exact this
theorem y_ {xs:List Er} (h:∀ x,x∈xs→x.vd) (hd:xs.Pairwise fun a b=>a.px≠b.px):aw (b8 4 xs++b8 6 xs)=cE xs:=by
 rw[iu,sF h hd,sF h hd]
 have:=Ah (xv h) (oF h hd)
 rw[←this.1,←this.2,List.take_append_drop]
theorem mr {A B:List Nr} (h:A.map Nr.core=B.map Nr.core):aw A=aw B:=by
 have e:∀ L:List Nr,aw L=((L.map Nr.core).filter fun c=> !c.2.1.isEmpty).map fun c=>⟨c.1.f,c.1.h,c.1.l,c.1.n,false,c.2.1⟩:=fun L=>by
  unfold aw
  rw[List.filter_map,List.map_map]
  rfl
 rw[e,e,h]
theorem vH.BE {A B:List Nr} (hf:vH A B) (hA:∀ x,x∈A→x.de) (hB:∀ x,x∈B→x.de):(∀ x,x∈aw (A++B)→x.vd)∧((aw (A++B)).Pairwise fun a b=>a.px≠b.px)∧cE (aw (A++B))=aw (A++B)∧((aw (A++B)).Pairwise fun x y=>aD x y=true):=by
 have qU:=pt (L:=A++B) (fun x hx=>(List.mem_append.1 hx).elim (hA x) (hB x))
 obtain⟨v1,v2⟩:=Dv qU hf.c
 have e:aw (A++B)=cE (aw (A++B)):=by
  have h1:=mr hf.ga
  have h2:=mr hf.gb
  have h3:=y_ v1 v2
  rw[iu]at h3
  rw[←h1,←h2,←iu]at h3
  exact h3
 refine⟨v1,v2,e.symm, ?_⟩
 have:=oF v1 v2
 rwa [←e]at this
abbrev DQ:D:= .agg [.sl 69 true [],.sl 69 true []]
theorem open_ok (n1 n2:Bool) (A B:List Nr) (hA:∀ x,x∈A→x.de∧x.vs.length≤5000) (hB:∀ x,x∈B→x.de∧x.vs.length≤5000) (lA:A.length≤5000) (lB:B.length≤5000) (p:Px) (hp:dR p.h p.l):
  Cl ty tab 49 [.agg [.sl 69 n1 (A.map bL),.sl 69 n2 (B.map bL)],p.d]=some [.int .i64 (if eM A B=0 then cy p.f p.h p.l p.n else eM A B)]:=by
 refine wX 0 _ _ _ _ _ _ _ _ ?_
 unfold tT
 have hc:=ui n1 n2 A B hA hB lA lB
 have hq:=eI p.f p.h p.l p.n hp
 by_cases h:eM A B=0
 ·rw[if_pos h]
  rw[h]at hc
  simp (disch:=omega) only[ay,hc,hq]
 ·rw[if_neg h]
  simp (disch:=omega) only[ay,hc,h]
theorem eZ {A B:List Nr}:eM A B=0↔vH A B:=by
 unfold eM
 constructor
 ·intro h
  split at h
  ·cases h
  ·split at h
   ·assumption
   ·cases h
 ·intro h
  have:=h.a;have:=h.b
  rw[if_neg (by omega),if_pos h]
def jS (p:Pf) (x:Er):Bool:=decide (x.f=p.f)&&pre x.en.k p.bits
def fY (p:Pf) (x:Er):Bool:=decide (x.f=p.f)&&pre p.bits x.en.k
theorem za {f:Int} {xs:List Er} (h:∀ x,x∈xs→x.vd) (q:Bs→Bool):(((xs.filter fun x=>decide (x.f=f)).map Er.en).filter fun e=>q e.k).map (iS f)=(xs.filter fun x=>decide (x.f=f)&&q x.en.k).map aB:=by
 rw[List.filter_map,List.filter_filter,List.map_map]
 have e:(xs.filter fun a=>((fun e:En=>q e.k)∘Er.en) a&&decide (a.f=f))=xs.filter fun x=>decide (x.f=f)&&q x.en.k:=List.filter_congr fun x _=>by simp[Bool.and_comm]
 rw[e]
 refine List.map_congr_left fun x hx=> ?_
 rw[List.mem_filter,zq3,decide_eq_true_eq]at hx
 have:=(h x hx.1).Ik
 rw[hx.2.1]at this
 exact this.symm
theorem xx (d1 d2:List D) (n1 n2:Bool) (f:Int):Cl ty tab 51 [.agg [.sl 69 n1 d1,.sl 69 n2 d2],.int .u8 f]=some [if f=4 then .sl 69 n1 d1 else .sl 69 n2 d2]:=by
 refine u6 0 _ _ _ _ _ ?_
 unfold rV
 by_cases h:f=4
 ·rw[if_pos h];simp (disch:=omega) only[ay,h]
 ·rw[if_neg h];simp (disch:=omega) only[ay,h]
theorem Dx (n:Bool) (d:List D) (p:Px):Cl ty tab 50 [.sl 69 n d,p.d]=some [.fn 85 [.rp [.sl 69 n d] 0,.rp [.int .u8 p.f,.int .u64 (p.h:Int),.int .u64 (p.l:Int),.int .i64 p.n] 0]]:=yP 0 _ _ _ _ _ _ rfl
theorem round_ok (k:Nat) (x:Nr) (hx:x.de) (hl:x.vs.length≤5000) (nw:Bool) (lw:List D) (GV:lw.length≤5000):dround cQ 49 (envOf ty tab (Cl ty tab)) k [bL x,.ov 49 nw lw]=
  some [.ov 49 (nw&&x.vs.isEmpty) (lw++(aw [x]).map aB)]:=by
 have:=kO (Cl ty tab) k x.f x.h x.l x.n x.nb (gT x.vs) x.c0 x.c1 nw lw
 refine Eq.trans this ?_
 unfold g8
 cases hv:x.vs with
 |nil=>
  simp (disch:=omega) only[ay,gT,List.map_nil,Int.natCast_zero,Int.lt_irrefl]
  simp[aw,hv]
 |cons v vs=>
  have hne:x.vs≠[]:=by rw[hv];simp
  have hcl:=oD hx.nb hne hl
  rw[←hv]
  have e0:(0:Int)<((x.vs.length:Nat):Int):=by rw[hv];simp
  have e2:x.vs.isEmpty=false:=by rw[hv];rfl
  have e3:(lw.length+1)*56≤140737488355328:=by omega
  simp (disch:=omega) only[ay,hcl,e0,e2,e3]
  simp[aw,hv,aB]
theorem Gz {f:Int} {x:Nr} {g:Nd} (h:EN f x g):(aw [x]).map aB=(own [g]).map (iS f):=by
 have e:aw [x]=aw [pq f g]:=mr (by
  simp only[List.map_cons,List.map_nil,Nr.core,pq,h.fm,h.h,h.l,h.n,h.vs,h.c0,h.c1])
 rw[e,show[pq f g]=[g].map (pq f)from rfl,xu,List.map_map]
 rfl
theorem EO {f:Int} (k:Nat) (hk:9223372036854775808<k) (n:Bool) (A:List Nr) (G:List Nd) (p:Pf) (hp:p.ok) (hf:p.f=f) (hA:A.map Nr.core=(G.map (pq f)).map Nr.core) (hG:∀ g,g∈G→jT f g.k) (hN:∀ i,C7 G 0 i) (hg:∀ x,x∈A→x.de∧x.vs.length≤5000) (hl:A.length≤5000)
  (B:List D→Option (List D)) (hB:∀ x,x∈A→∀ nw lw,lw.length≤5000→B [bL x,.ov 49 nw lw]=some [.ov 49 (nw&&x.vs.isEmpty) (lw++(aw [x]).map aB)]):
  da (Cl ty tab) k B n (A.map bL) p.f p.h p.l p.n true []=some [.ov 49 (own (walk G p.bits G.length (if A.length=0 then -1 else 0))).isEmpty ((own (walk G p.bits G.length (if A.length=0 then -1 else 0))).map (iS f))]:=by
 obtain⟨Ll,ho⟩:=Il hA
 have Dy:Fs G:=fun i x hx b=>by
  rcases (hN i x hx).2 b with h |⟨j,y,h1,h2,h3,h4⟩
  ·exact .inl h
  ·exact .inr (by rw[h1];omega)
 have hlen:(A.map bL).length=A.length:=by simp
 have loop:∀ F:List D→(List D→Option (List D))→Option (List D),(∀ vs ag,F vs ag=da.b0 (Cl ty tab) k B (A.map bL) p.f p.h p.l p.n vs ag)→∀ DJ:Int,(DJ= -1∨(DJ=0∧0<A.length))→
   iter k F [.int .i64 DJ,.pv [.ov 49 true []]]=some [.ov 49 (own (walk G p.bits G.length DJ)).isEmpty ((own (walk G p.bits G.length DJ)).map (iS f))]:=by
  intro F hF DJ hat
  have:=bk (F:=F) (σ:=Int×Bool×List D) (fun s=>[.int .i64 s.1,.pv [.ov 49 s.2.1 s.2.2]]) (fun s=>some [.ov 49 (s.2.1&&(own (walk G p.bits G.length s.1)).isEmpty) (s.2.2++(own (walk G p.bits G.length s.1)).map (iS f))])
   (fun s=>if s.1<0 then 0 else A.length - s.1.toNat) (fun s=>s.1= -1∨∃ i:Nat,s.1=i∧i<A.length∧s.2.2.length≤i) (fun s hs again ih=> ?_) k (DJ,true,[]) (by
    rcases hat with h |⟨h,h2⟩
    ·exact .inl h
    ·exact .inr ⟨0,h,h2,Nat.le_refl _⟩) (by dsimp only;split<;>omega)
  ·simpa using this
  ·obtain⟨a,nw,lw⟩:=s
   dsimp only at hs ih⊢
   rw[hF]
   unfold da.b0
   rcases hs with rfl |⟨i,rfl,hi,GV⟩
   ·rw[iL _ (by omega)]
    simp (disch:=omega) only[ay,own,List.filter_nil,List.map_nil,List.append_nil,Int.reduceNeg,Int.reduceLE,List.isEmpty_nil]
   ·have hx:A[i]? =some A[i]:=zq4 _
    have gx:(A.map bL).getD i .undef=bL A[i]:=aP hi
    have Lm:=List.getElem_mem hi
    have Dz:G[i]? =some (G[i]'(by omega)):=zq4 _
    generalize (G[i]'(by omega))=g at Dz
    have zb:=ho i A[i] g hx Dz
    have qU:=hg A[i] Lm
    have Ln:=hB A[i] Lm nw lw (by omega)
    generalize A[i]=x at*
    have sg:=(hG g (List.mem_of_getElem? Dz)).sp
    have sG:=t8 sg.1 hp
    rw[sg.2.1,hf,sg.2.2,decide_eq_true rfl,Bool.true_and]at sG
    have mX:Cl ty tab 29 [.agg [.int .u8 x.f,.int .u64 (x.h:Int),.int .u64 (x.l:Int),.int .i64 x.n],.agg [.int .u8 p.f,.int .u64 (p.h:Int),.int .u64 (p.l:Int),.int .i64 (p.n:Int)]]=some [.bool (pre g.k p.bits)]:=by
     rw[show (D.agg [.int .u8 x.f,.int .u64 (x.h:Int),.int .u64 (x.l:Int),.int .i64 x.n])=(aF f g.k).d from zb.px]
     exact sG
    have hne:=y9 x
    obtain⟨m,hm⟩:∃ m,G.length=m+1:=⟨G.length - 1,by omega⟩
    have hw:walk G p.bits G.length (i:Int)=if pre g.k p.bits=true then g::(if p.bits.length≤g.k.length then []else walk G p.bits m (Trie.child g (Trie.aM p.bits g.k.length)))else []:=by
     rw[hm,walk,if_neg (by omega),Int.toNat_natCast,Dz]
    rw[hw]
    have Kr:g.k.length=(aF f g.k).n:=by rw[←(aF f g.k).len,sg.2.2]
    cases mA:pre g.k p.bits
    ·rw[mA]at mX
     simp (disch:=omega) only[ay,hlen,gx,pp,mX,own,List.filter_nil,List.map_nil,List.append_nil,List.isEmpty_nil]
    ·rw[mA]at mX
     rw[if_pos rfl]
     have hown:=Gz zb
     have Lo:(own [g]).isEmpty=x.vs.isEmpty:=by rw[zb.vs];unfold own;cases h:g.v<;>simp[h]
     by_cases hle:p.bits.length≤g.k.length
     ·rw[if_pos hle,←hown,Lo]
      have h1:(p.n:Int)≤x.n:=by rw[zb.n,←Kr,←p.len];omega
      simp (disch:=omega) only[ay,hlen,gx,pp,mX,hne,Ln,h1]
     ·rw[if_neg hle]
      have h1: ¬(p.n:Int)≤x.n:=by rw[zb.n,←Kr,←p.len];omega
      have oE:=qD hp g.k.length
      have MJ:x.n=((g.k.length:Nat):Int):=by rw[zb.n,Kr]
      rw[←MJ]at oE
      have In:Cl ty tab 86 [.agg [.int .u8 p.f,.int .u64 (p.h:Int),.int .u64 (p.l:Int),.int .i64 (p.n:Int)],.int .i64 x.n]=some [.int .i64 (bi (Trie.aM p.bits g.k.length))]:=oE
      generalize Trie.aM p.bits g.k.length=b at*
      have hcell:(bL x).cell (5+(bi b).toNat)= .int .i64 (Trie.child g b):=by
          cases b
          ·show D.int .i64 x.c0=_;rw[zb.c0];rfl
          ·show D.int .i64 x.c1=_;rw[zb.c1];rfl
      have DU:0≤bi b∧bi b<2:=by cases b<;>simp[bi]
      have zB:bi b<((2:Nat):Int):=DU.2
      have MK:(lw++(aw [x]).map aB).length≤i+1:=by
          have:=cT [x]
          rw[List.length_append,List.length_map]
          simp only[List.length_singleton]at this
          omega
      have Io:walk G p.bits m (Trie.child g b)=walk G p.bits G.length (Trie.child g b):=by
          rcases Dy i g Dz b with h |h
          ·rw[h,iL m (i:= -1) (by omega),iL _ (i:= -1) (by omega)]
          ·have e:Trie.child g b=(((Trie.child g b).toNat:Nat):Int):=by omega
           rw[e]
           exact tZ Dy _ _ _ _ (by omega) (by omega)
      have b9:=ih (Trie.child g b,nw&&x.vs.isEmpty,lw++(aw [x]).map aB) (by
          dsimp only
          rcases (hN i g Dz).2 b with h |⟨j,y,e1,e2,e3,e4⟩
          ·exact .inl h
          ·have hj:=(zq6.1 e3).1
           exact .inr ⟨j,by rw[e1];simp,by omega,by omega⟩) (by
          dsimp only
          rcases (hN i g Dz).2 b with h |⟨j,y,e1,e2,e3,e4⟩
          ·rw[h,if_pos (show (-1:Int)<0 by omega),if_neg (show¬((i:Nat):Int)<0 by omega)]
           omega
          ·rw[e1]
           rw[if_neg (show¬(((0+j:Nat):Int)<0)by omega),if_neg (show¬((i:Nat):Int)<0 by omega)]
           omega)
      dsimp only at b9
      rw[Io,show g::walk G p.bits G.length (Trie.child g b)=[g]++walk G p.bits G.length (Trie.child g b)from rfl,qC,List.map_append,←hown]
      have ML:(own [g]++own (walk G p.bits G.length (Trie.child g b))).isEmpty=(x.vs.isEmpty&&(own (walk G p.bits G.length (Trie.child g b))).isEmpty):=by rw[←Lo];cases own [g]<;>rfl
      rw[ML,←List.append_assoc,←Bool.and_assoc]
      simp (disch:=omega) only[ay,hlen,gx,pp,mX,hne,Ln,h1,In,DU,zB,and_self,hcell]
      exact b9
 unfold da
 by_cases h0:A.length=0
 ·rw[if_pos h0]
  simp (disch:=omega) only[ay,hlen,h0,Int.natCast_zero]
  exact loop _ (fun _ _=>rfl) (-1) (.inl rfl)
 ·rw[if_neg h0]
  have: ¬((A.length:Nat):Int)=0:=by omega
  simp (disch:=omega) only[ay,hlen,this]
  exact loop _ (fun _ _=>rfl) 0 (.inr ⟨rfl,by omega⟩)
end Go.Proofs.Ytkfnkiejikhglaa.Own
namespace Go.Proofs.Ytkfnkiejikhglaa.Own
open Go Go.Proofs.Ytkfnkiejikhglaa.GD Go.Proofs.Ytkfnkiejikhglaa.GD.Trie Go.Sort
theorem mY (n1 n2:Bool) (A B:List Nr) (hf:vH A B) (hA:∀ x,x∈A→x.de∧x.vs.length≤5000) (hB:∀ x,x∈B→x.de∧x.vs.length≤5000) (p:Pf) (hp:p.ok):
  Cl ty tab 20 [.agg [.sl 69 n1 (A.map bL),.sl 69 n2 (B.map bL)],p.d]=some [.ov 49 ((aw (A++B)).filter (jS p)).isEmpty (((aw (A++B)).filter (jS p)).map aB),.int .i64 0]:=by
 obtain⟨k,hk⟩:=bY
 refine kL k _ _ _ _ _ _ _ _ ?_
 unfold jA
 have lA:=hf.a
 have lB:=hf.b
 have ho:=open_ok n1 n2 A B hA hB (by omega) (by omega) ⟨p.f,p.h,p.l,p.n⟩ hp.r
 rw[if_pos (eZ.2 hf),hp.c]at ho
 have hn:=xx (A.map bL) (B.map bL) n1 n2 p.f
 obtain⟨v1,v2,v3,v4⟩:=hf.BE (fun x hx=>(hA x hx).1) (fun x hx=>(hB x hx).1)
 have key:∀ (f:Int) (n:Bool) (R:List Nr),p.f=f→(∀ x,x∈R→x.de∧x.vs.length≤5000)→R.length≤5000→R.map Nr.core=(b8 f (aw (A++B))).map Nr.core→
   diter h_ 49 {envOf ty tab (Cl ty tab)with yld:=some (49,dround cQ 49 (envOf ty tab (Cl ty tab)) k)} k [.rp [.sl 69 n (R.map bL)] 0,.rp [.int .u8 p.f,.int .u64 (p.h:Int),.int .u64 (p.l:Int),.int .i64 (p.n:Int)] 0] true []=
    some [.ov 49 ((aw (A++B)).filter (jS p)).isEmpty (((aw (A++B)).filter (jS p)).map aB)]:=by
  intro f n R GA hR lR ul
  have fo:=mq (f:=f) v1 v2
  rw[u7]
  have hw:=EO (f:=f) k hk n R (jB (cj f (aw (A++B)))) p hp GA ul (uk fo.1 fo.2.1) (Trie.mi _ 0 _ fo.1 (Nat.le_refl _) fun e he=>(fo.2.2.1 e he).1) hR lR _ (fun x hx nw lw GV=>round_ok k x (hR x hx).1 (hR x hx).2 nw lw GV)
  rw[hw]
  have H6:(if R.length=0 then (-1:Int)else 0)=ix (cj f (aw (A++B))) 0:=by
   have hl:=congrArg List.length ul
   rw[List.length_map,List.length_map]at hl
   unfold ix
   by_cases h0:cj f (aw (A++B))=[]
   ·have:R.length=0:=by rw[hl];unfold b8;rw[h0];rfl
    rw[if_pos this,h0];rfl
   ·have h1:=(oA (cj f (aw (A++B))).length 0 _ fo.1 (Nat.le_refl _) h0).1
    have h2:1≤R.length:=by rw[hl];unfold b8;rw[List.length_map];exact h1
    rw[if_neg (by omega),if_neg (by simpa using h0)];rfl
  have hown:own (walk (jB (cj f (aw (A++B)))) p.bits (jB (cj f (aw (A++B)))).length (ix (cj f (aw (A++B))) 0))=(cj f (aw (A++B))).filter fun e=>pre e.k p.bits:=by
   by_cases h0:cj f (aw (A++B))=[]
   ·rw[h0,iL _ (by simp[ix])];rfl
   ·have h1:=oz _ 0 _ fo.1 (Nat.le_refl _) fun e he=>(fo.2.2.1 e he).1
    have h2:(cj f (aw (A++B))).length≤(jB (cj f (aw (A++B)))).length:=by
     have:(own (jB (cj f (aw (A++B))))).length≤(jB (cj f (aw (A++B)))).length:=by unfold own;rw[List.length_map];exact List.length_filter_le ..
     rwa [show own (jB (cj f (aw (A++B))))=cj f (aw (A++B))from h1]at this
    exact se _ p.bits _ _ 0 _ fo.1 (Nat.le_refl _) h2 (fun e he=>(fo.2.2.1 e he).1) (fun i x hx=>by rw[Nat.zero_add];exact hx)
  rw[H6,hown]
  have Ks:=za (f:=f) (xs:=aw (A++B)) v1 (fun b=>pre b p.bits)
  have MM:((aw (A++B)).filter fun x=>decide (x.f=f)&&pre x.en.k p.bits)=(aw (A++B)).filter (jS p):=List.filter_congr fun x _=>by unfold jS;rw[GA]
  rw[MM]at Ks
  have Kt:cj f (aw (A++B))=((aw (A++B)).filter fun x=>decide (x.f=f)).map Er.en:=by unfold cj;rw[v3]
  rw[Kt,Ks]
  congr 3
  have:=congrArg List.isEmpty Ks
  simpa using this
 rcases hp.DI with⟨h4,_⟩ |⟨h6,_⟩
 ·have hi:=key 4 n1 A h4 hA (by omega) hf.ga
  rw[if_pos h4]at hn
  have hw:=Dx n1 (A.map bL) ⟨p.f,p.h,p.l,p.n⟩
  have e:∀ x y:D,((D.fn 85 [x,y]).cell 0).caps=[x,y]:=fun _ _=>rfl
  simp (disch:=omega) only[ay,ho,hn,hw,e,ne_eq,not_true_eq_false]
  exact Eq.trans (congrArg (fun z=>yK z fun n4 l5=>(some [(D.ov 49 n4 l5),(D.int .i64 0)])) hi) rfl
 ·have hi:=key 6 n2 B h6 hB (by omega) hf.gb
  rw[if_neg (by omega)]at hn
  have hw:=Dx n2 (B.map bL) ⟨p.f,p.h,p.l,p.n⟩
  have e:∀ x y:D,((D.fn 85 [x,y]).cell 0).caps=[x,y]:=fun _ _=>rfl
  simp (disch:=omega) only[ay,ho,hn,hw,e,ne_eq,not_true_eq_false]
  exact Eq.trans (congrArg (fun z=>yK z fun n4 l5=>(some [(D.ov 49 n4 l5),(D.int .i64 0)])) hi) rfl
theorem DA (x:Nr):aw [x]=if x.vs.isEmpty=true then []else [⟨x.f,x.h,x.l,x.n,false,x.vs⟩]:=by
 cases h:x.vs.isEmpty<;>simp[aw,h]
theorem vI (n1 n2:Bool) (A B:List Nr) (hf:vH A B) (hA:∀ x,x∈A→x.de∧x.vs.length≤5000) (hB:∀ x,x∈B→x.de∧x.vs.length≤5000) (p:Pf) (hp:p.ok):
  Cl ty tab 22 [.agg [.sl 69 n1 (A.map bL),.sl 69 n2 (B.map bL)],p.d]=some [.ov 49 ((aw (A++B)).filter (fY p)).isEmpty (((aw (A++B)).filter (fY p)).map aB),.int .i64 0]:=by
 obtain⟨k,hk⟩:=bY
 refine lL k _ _ _ _ _ _ _ _ ?_
 unfold cw
 have lA:=hf.a
 have lB:=hf.b
 have ho:=open_ok n1 n2 A B hA hB (by omega) (by omega) ⟨p.f,p.h,p.l,p.n⟩ hp.r
 rw[if_pos (eZ.2 hf),hp.c]at ho
 have hn:=xx (A.map bL) (B.map bL) n1 n2 p.f
 obtain⟨v1,v2,v3,v4⟩:=hf.BE (fun x hx=>(hA x hx).1) (fun x hx=>(hB x hx).1)
 have key:∀ (f:Int) (n:Bool) (R:List Nr),p.f=f→(∀ x,x∈R→x.de∧x.vs.length≤5000)→R.length≤5000→R.map Nr.core=(b8 f (aw (A++B))).map Nr.core→
   iter k (cw.b0 (Cl ty tab) k [.sl 69 n (R.map bL)]) [.ov 49 true [],.int .i64 0,.pv [.int .u8 p.f,.int .u64 (p.h:Int),.int .u64 (p.l:Int),.int .i64 (p.n:Int)]]=
    some [.ov 49 ((aw R).filter (fY p)).isEmpty (((aw R).filter (fY p)).map aB),.int .i64 0]:=by
  intro f n R GA hR lR ul
  have fo:=mq (f:=f) v1 v2
  obtain⟨Ll,hno⟩:=Il ul
  have hG:=uk fo.1 fo.2.1
  have hlen:(R.map bL).length=R.length:=by simp
  have:=bP (F:=cw.b0 (Cl ty tab) k [.sl 69 n (R.map bL)]) R.length (fun i=>[.ov 49 ((aw (R.take i)).filter (fY p)).isEmpty (((aw (R.take i)).filter (fY p)).map aB),.int .i64 i,.pv [.int .u8 p.f,.int .u64 (p.h:Int),.int .u64 (p.l:Int),.int .i64 (p.n:Int)]])
   (fun _=>some [.ov 49 ((aw R).filter (fY p)).isEmpty (((aw R).filter (fY p)).map aB),.int .i64 0]) (fun i hi again ha=> ?_) (fun again=> ?_) k (by omega) 0 (by omega)
  ·exact this
  ·unfold cw.b0
   have hx:R[i]? =some R[i]:=zq4 _
   have gx:(R.map bL).getD i .undef=bL R[i]:=aP hi
   have Dz:(jB (cj f (aw (A++B))))[i]? =some ((jB (cj f (aw (A++B))))[i]'(by have:=Ll;simpa[b8]using (by omega:i<_))):=zq4 _
   generalize ((jB (cj f (aw (A++B))))[i]'_)=g at Dz
   have zb:=hno i R[i] g hx Dz
   have qU:=hR R[i] (List.getElem_mem hi)
   have GB:=cT (R.take i)
   rw[List.length_take]at GB
   have E6:=List.length_filter_le (fY p) (aw (R.take i))
   rw[List.take_add_one,hx,Option.toList_some,iu,List.filter_append,DA]at ha
   generalize R[i]=x at*
   generalize (aw (R.take i)).filter (fY p)=H at*
   have sg:=(hG g (List.mem_of_getElem? Dz)).sp
   have sG:=t8 hp sg.1
   rw[sg.2.1,GA,sg.2.2,decide_eq_true rfl,Bool.true_and]at sG
   have mX:Cl ty tab 29 [.agg [.int .u8 p.f,.int .u64 (p.h:Int),.int .u64 (p.l:Int),.int .i64 (p.n:Int)],.agg [.int .u8 x.f,.int .u64 (x.h:Int),.int .u64 (x.l:Int),.int .i64 x.n]]=some [.bool (pre p.bits g.k)]:=by
    rw[show (D.agg [.int .u8 x.f,.int .u64 (x.h:Int),.int .u64 (x.l:Int),.int .i64 x.n])=(aF f g.k).d from zb.px]
    exact sG
   cases hv:x.vs with
   |nil=>
    rw[hv]at ha
    simp only[List.isEmpty_nil,if_true,List.filter_nil,List.append_nil]at ha
    simp (disch:=omega) only[ay,hlen,gx,pp,hv,gT,List.map_nil,Int.natCast_zero,Int.lt_irrefl,Int.natCast_add,Int.natCast_one]at ha⊢
    exact ha
   |cons v vs=>
    have hne:x.vs≠[]:=by rw[hv];simp
    have hcl:=oD qU.1.nb hne qU.2
    have e0:(0:Int)<((x.vs.length:Nat):Int):=by rw[hv];simp
    have e2:x.vs.isEmpty=false:=by rw[hv];rfl
    rw[e2]at ha
    simp only[Bool.false_eq_true,if_false]at ha
    have xM:fY p ⟨x.f,x.h,x.l,x.n,false,x.vs⟩=pre p.bits g.k:=by
     have hen:(⟨x.f,x.h,x.l,x.n,false,x.vs⟩:Er).en.k=g.k:=by
      show Pf.bits ⟨x.f,x.h,x.l,x.n.toNat⟩=g.k
      rw[zb.fm,zb.h,zb.l,zb.n,Int.toNat_natCast]
      exact sg.2.2
     unfold fY
     rw[hen]
     dsimp only
     rw[zb.fm,sg.2.1,GA,decide_eq_true rfl,Bool.true_and]
    cases mA:pre p.bits g.k
    ·rw[mA]at mX xM
     rw[List.filter_cons,xM]at ha
     simp only[Bool.false_eq_true,if_false,List.filter_nil,List.append_nil]at ha
     simp (disch:=omega) only[ay,hlen,gx,pp,e0,mX,Int.natCast_add,Int.natCast_one]at ha⊢
     exact ha
    ·rw[mA]at mX xM
     rw[List.filter_cons,xM,if_pos rfl,List.filter_nil]at ha
     have e5:∀ z:Er,(H++[z]).isEmpty=false:=fun z=>by simp
     rw[e5,List.map_append,List.map_cons,List.map_nil]at ha
     have e3:(H.length+1)*56≤140737488355328:=by omega
     have hH:(H.map aB).length=H.length:=by simp
     have f1:=enc.2.2.2.2.2.1 ⟨x.f,x.h,x.l,x.n,false,x.vs⟩
     dsimp only at f1
     simp (disch:=omega) only[ay,hlen,gx,pp,e0,mX,hcl,e3,hH,f1,Int.natCast_add,Int.natCast_one]at ha⊢
     exact ha
  ·unfold cw.b0
   rw[List.take_length]
   simp (disch:=omega) only[ay,hlen]
 have hres:∀ (f:Int) (R:List Nr),p.f=f→R.map Nr.core=(b8 f (aw (A++B))).map Nr.core→(aw R).filter (fY p)=(aw (A++B)).filter (fY p):=by
  intro f R GA ul
  rw[mr ul,sF v1 v2,v3,List.filter_filter]
  exact List.filter_congr fun x _=>by
   unfold fY
   rw[GA]
   cases decide (x.f=f)<;>simp
 rcases hp.DI with⟨h4,_⟩ |⟨h6,_⟩
 ·have hi:=key 4 n1 A h4 hA (by omega) hf.ga
  rw[hres 4 A h4 hf.ga]at hi
  rw[if_pos h4]at hn
  simp (disch:=omega) only[ay,ho,hn,ne_eq,not_true_eq_false]
  exact hi
 ·have hi:=key 6 n2 B h6 hB (by omega) hf.gb
  rw[hres 6 B h6 hf.gb]at hi
  rw[if_neg (by omega)]at hn
  simp (disch:=omega) only[ay,ho,hn,ne_eq,not_true_eq_false]
  exact hi
end Go.Proofs.Ytkfnkiejikhglaa.Own
namespace Go.Proofs.Ytkfnkiejikhglaa.Own
open Go Go.Proofs.Ytkfnkiejikhglaa.GD Go.Proofs.Ytkfnkiejikhglaa.GD.Trie Go.Sort
theorem Ip {d:D} (h:fits (.sl 3) d=true) (hw:WT ty d):∃ (nb:Bool) (v:List Int),d= .sl 3 nb (gT v)∧(nb=true→v=[])∧v.length≤9223372036854775807∧∀ x,x∈v→ -9223372036854775808≤x∧x≤9223372036854775807:=by
 obtain⟨nb,els,rfl⟩:=zT h
 obtain⟨h1,h2,h3,h4⟩:=hw.els
 obtain⟨v,rfl,hv⟩:=lq (f:=D.int .i64) (Q:=fun x=> -9223372036854775808≤x∧x≤9223372036854775807) (els:=els) fun d hd=>by
  obtain⟨x,rfl⟩:=cI (wQ (h3 ⟨false,[.int .i64]⟩ rfl d hd))
  have:=(h4 _ hd).K_
  simp[IntKind.min,IntKind.max,IntKind.signed,IntKind.bits]at this
  exact⟨x,rfl,this⟩
 exact⟨nb,v,rfl,fun h=>by simpa using h2 h,by simpa using h1,hv⟩
theorem pu {n:Int} (h:WT ty (.int .u64 n)):∃ m:Nat,n=(m:Int)∧m<18446744073709551616:=by
 have:=h.K_
 simp[IntKind.min,IntKind.max,IntKind.signed,IntKind.bits]at this
 exact⟨n.toNat,by omega,by omega⟩
theorem Iq {d:D} (h:Vk.fits ⟨true,[.int .u8,.int .u64,.int .u64,.int .i64]⟩ d=true) (hw:WT ty d):∃ p:Px,d=p.d∧dR p.h p.l:=by
 obtain⟨cs,rfl,h⟩:=nO h
 obtain⟨d1,cs,rfl,h1,h⟩:=bG h
 obtain⟨d2,cs,rfl,h2,h⟩:=bG h
 obtain⟨d3,cs,rfl,h3,h⟩:=bG h
 obtain⟨d4,cs,rfl,h4,h⟩:=bG h
 obtain rfl:=md h
 obtain⟨f,rfl⟩:=cI h1
 obtain⟨hh,rfl⟩:=cI h2
 obtain⟨l,rfl⟩:=cI h3
 obtain⟨n,rfl⟩:=cI h4
 obtain⟨hh,rfl,b1⟩:=pu (hw.cells _ (by simp:D.int .u64 hh∈_))
 obtain⟨l,rfl,b2⟩:=pu (hw.cells _ (by simp:D.int .u64 l∈_))
 exact⟨⟨f,hh,l,n⟩,rfl,b1,b2⟩
theorem Ir {d:D} (h:Vk.fits ⟨true,[.int .u8,.int .u64,.int .u64,.int .i64,.sl 3,.int .i64,.int .i64]⟩ d=true) (hw:WT ty d):∃ x:Nr,d=bL x∧x.de:=by
 obtain⟨cs,rfl,h⟩:=nO h
 obtain⟨d1,cs,rfl,h1,h⟩:=bG h
 obtain⟨d2,cs,rfl,h2,h⟩:=bG h
 obtain⟨d3,cs,rfl,h3,h⟩:=bG h
 obtain⟨d4,cs,rfl,h4,h⟩:=bG h
 obtain⟨d5,cs,rfl,h5,h⟩:=bG h
 obtain⟨d6,cs,rfl,h6,h⟩:=bG h
 obtain⟨d7,cs,rfl,h7,h⟩:=bG h
 obtain rfl:=md h
 obtain⟨f,rfl⟩:=cI h1
 obtain⟨hh,rfl⟩:=cI h2
 obtain⟨l,rfl⟩:=cI h3
 obtain⟨n,rfl⟩:=cI h4
 obtain⟨c0,rfl⟩:=cI h6
 obtain⟨c1,rfl⟩:=cI h7
 obtain⟨hh,rfl,b1⟩:=pu (hw.cells _ (by simp:D.int .u64 hh∈_))
 obtain⟨l,rfl,b2⟩:=pu (hw.cells _ (by simp:D.int .u64 l∈_))
 obtain⟨nb,v,rfl,e1,e2,e3⟩:=Ip h5 (hw.cells _ (by simp))
 exact⟨⟨f,hh,l,n,nb,v,c0,c1⟩,rfl,⟨b1,b2⟩,e1⟩
theorem xy {d:D} (h:fits (.sl 69) d=true) (hw:WT ty d):∃ (nb:Bool) (A:List Nr),d= .sl 69 nb (A.map bL)∧(nb=true→A=[])∧A.length≤9223372036854775807∧∀ x,x∈A→x.de:=by
 obtain⟨nb,els,rfl⟩:=zT h
 obtain⟨h1,h2,h3,h4⟩:=hw.els
 obtain⟨A,rfl,hA⟩:=lq (f:=bL) (Q:=Nr.de) (els:=els) fun d hd=>Ir (h3 _ rfl d hd) (h4 _ hd)
 exact⟨nb,A,rfl,fun h=>by simpa using h2 h,by simpa using h1,hA⟩
theorem EP {d:D} (h:Vk.fits ⟨true,[.sl 69,.sl 69]⟩ d=true) (hw:WT ty d):∃ (n1 n2:Bool) (A B:List Nr),d= .agg [.sl 69 n1 (A.map bL),.sl 69 n2 (B.map bL)]∧(n1=true→A=[])∧(n2=true→B=[])∧
  A.length≤9223372036854775807∧B.length≤9223372036854775807∧(∀ x,x∈A→x.de)∧∀ x,x∈B→x.de:=by
 obtain⟨cs,rfl,h⟩:=nO h
 obtain⟨d1,cs,rfl,h1,h⟩:=bG h
 obtain⟨d2,cs,rfl,h2,h⟩:=bG h
 obtain rfl:=md h
 obtain⟨n1,A,rfl,a1,a2,a3⟩:=xy h1 (hw.cells _ (by simp))
 obtain⟨n2,B,rfl,b1,b2,b3⟩:=xy h2 (hw.cells _ (by simp))
 exact⟨n1,n2,A,B,rfl,a1,b1,a2,b2,a3,b3⟩
end Go.Proofs.Ytkfnkiejikhglaa.Own
namespace Go.Proofs.Ytkfnkiejikhglaa.Own
open Go Go.Proofs.Ytkfnkiejikhglaa.GD Go.Proofs.Ytkfnkiejikhglaa.GD.Trie Go.Sort
theorem qc (n1 n2:Bool) (a b:List Int) (hl:a.length≤9223372036854775807):Cl ty tab 45 [.sl 3 n1 (gT a),.sl 3 n2 (gT b)]=some [.bool (decide (a=b))]:=by
 obtain⟨k,hk⟩:=bY
 refine jv k _ _ _ _ ?_
 unfold bf
 have h1:(gT a).length=a.length:=by simp
 have h2:(gT b).length=b.length:=by simp
 by_cases he:a.length=b.length
 ·have:=bP (F:=bf.b0 (Cl ty tab) k (gT a) (gT b)) a.length (fun i=>[.int .i64 i]) (fun i=>some [.bool (decide (a.drop i=b.drop i))]) (fun i hi again ha=> ?_) (fun again=> ?_) k (by omega) 0 (by omega)
  ·rw[List.drop_zero,List.drop_zero]at this
   simp (disch:=omega) only[ay,h1,h2,he,ne_eq,not_true_eq_false]
   simpa using this
  ·unfold bf.b0
   rw[oG hi (by omega)]
   have g1:=pr hi
   have g2:=pr (show i<b.length by omega)
   by_cases hx:a[i]=b[i]
   ·have hlt:(i:Int)<((b.length:Nat):Int):=by omega
    simp (disch:=omega) only[ay,h1,h2,g1,g2,hx,ne_eq,not_true_eq_false,Int.natCast_add,Int.natCast_one]at ha⊢
    exact ha
   ·simp (disch:=omega) only[ay,h1,h2,g1,g2,hx,ne_eq,not_false_eq_true]
  ·unfold bf.b0
   have:b.drop a.length=[]:=List.drop_eq_nil_of_le (by omega)
   rw[List.drop_length,this]
   simp (disch:=omega) only[ay,h1,h2]
 ·have hne: ¬a=b:=fun h=>he (by rw[h])
  have: ¬((a.length:Nat):Int)=((b.length:Nat):Int):=by omega
  simp (disch:=omega) only[ay,h1,h2,this,hne,ne_eq,not_false_eq_true]
def Er.core (x:Er):Px×List Int:=(x.px,x.vs)
theorem zd (x y:Er):(decide (x.f=y.f)&&(decide ((x.h:Int)=y.h)&&(decide ((x.l:Int)=y.l)&&decide (x.n=y.n))))=decide (x.px=y.px):=by
 simp only[←Bool.decide_and]
 apply decide_eq_decide.2
 simp only[Er.px,Px.mk.injEq,Int.ofNat_inj]
theorem iT (n1 n2:Bool) (a b:List Er) (hl:a.length≤9223372036854775807) (hv:∀ x,x∈a→x.vs.length≤9223372036854775807):Cl ty tab 17 [.sl 49 n1 (a.map aB),.sl 49 n2 (b.map aB)]=some [.bool (decide (a.map Er.core=b.map Er.core))]:=by
 obtain⟨k,hk⟩:=bY
 refine ib k _ _ _ _ ?_
 unfold aU
 have h1:(a.map aB).length=a.length:=by simp
 have h2:(b.map aB).length=b.length:=by simp
 by_cases he:a.length=b.length
 ·have:=bP (F:=aU.b0 (Cl ty tab) k (a.map aB) (b.map aB)) a.length (fun i=>[.int .i64 i]) (fun i=>some [.bool (decide ((a.map Er.core).drop i=(b.map Er.core).drop i))]) (fun i hi again ha=> ?_) (fun again=> ?_) k (by omega) 0 (by omega)
  ·rw[List.drop_zero,List.drop_zero]at this
   simp (disch:=omega) only[ay,h1,h2,he,ne_eq,not_true_eq_false]
   simpa using this
  ·unfold aU.b0
   rw[oG (by simpa using hi) (by simpa using (by omega:i<b.length))]
   rw[List.getElem_map,List.getElem_map]
   have I5:=hv a[i] (List.getElem_mem hi)
   have g1:(a.map aB).getD i .undef=aB a[i]:=aP hi
   have g2:(b.map aB).getD i .undef=aB b[i]:=aP (by omega)
   have hs:=qc a[i].nb b[i].nb a[i].vs b[i].vs I5
   have hp:=zd a[i] b[i]
   have hlt:(i:Int)<((b.length:Nat):Int):=by omega
   have gL:(i:Int)<((a.length:Nat):Int):=by omega
   generalize a[i]=x at*
   generalize b[i]=y at*
   have xM:decide (x.core=y.core)=(decide (x.px=y.px)&&decide (x.vs=y.vs)):=by simp[Er.core]
   rw[xM]
   by_cases hx:x.px=y.px
   ·rw[decide_eq_true hx]at hp
    by_cases hy:x.vs=y.vs
    ·rw[decide_eq_true hy,hy]at hs
     simp (disch:=omega) only[ay,h1,h2,g1,g2,enc,hp,hs,hx,hy,Int.natCast_add,Int.natCast_one]at ha⊢
     exact ha
    ·rw[decide_eq_false hy]at hs
     simp (disch:=omega) only[ay,h1,h2,g1,g2,enc,hp,hs,hx,hy]
   ·rw[decide_eq_false hx]at hp
    simp (disch:=omega) only[ay,h1,h2,g1,g2,enc,hp,hx]
  ·unfold aU.b0
   have e1:(a.map Er.core).drop a.length=[]:=List.drop_eq_nil_of_le (by simp)
   have e2:(b.map Er.core).drop a.length=[]:=List.drop_eq_nil_of_le (by simp;omega)
   rw[e1,e2]
   simp (disch:=omega) only[ay,h1,h2]
 ·have hne: ¬a.map Er.core=b.map Er.core:=fun h=>he (by have:=congrArg List.length h;simpa using this)
  have: ¬((a.length:Nat):Int)=((b.length:Nat):Int):=by omega
  simp (disch:=omega) only[ay,h1,h2,this,hne,ne_eq,not_false_eq_true]
end Go.Proofs.Ytkfnkiejikhglaa.Own
namespace Go.Proofs.Ytkfnkiejikhglaa.Own
open Go Go.Proofs.Ytkfnkiejikhglaa.GD Go.Proofs.Ytkfnkiejikhglaa.GD.Trie Go.Sort
theorem lU {w h l i:Nat} (hi:i<w):(bo w h l).getD i .undef= .int .i64 (bi (bN h l (w - 1 - i))):=tX hi
theorem iv (w h l:Nat):(bo w h l).length=w:=by simp[bo]
theorem EQ {f:Int} {h l:Nat} (r:dR h l) (ha:bZ f h l=true) (hw:ac f≠0) {i:Nat} (hi:i<ac f):Cl ty tab 98 [.int .u8 f,tV h l,.int .i64 i]=some [.int .i64 (bi (bN h l (ac f - 1 - i))),.int .i64 0]:=by
 refine mz 0 _ _ _ _ ?_
 unfold jm
 have h1: ¬(i:Int)<0:=by omega
 have h2: ¬((ac f:Nat):Int)≤(i:Int):=by omega
 have hb:=kn f h l r
 have hg:=lU (h:=h) (l:=l) hi
 simp (disch:=omega) only[ay,gJ,d8,ha,h1,h2,hb,iv,hg]
open Classical in
theorem nu {p q:Pf} (hp:p.ok) (hq:q.ok):Cl ty tab 54 [p.d,q.d]=some [.bool (decide (p.f=q.f)&&pre p.bits q.bits)]:=by
 obtain⟨k,hk⟩:=bY
 refine ki k _ _ _ _ _ _ _ _ ?_
 unfold bu
 have c1:=d9 p.f p.h p.l p.n hp.r
 have c2:=d9 q.f q.h q.l q.n hq.r
 rw[hp.c]at c1
 rw[hq.c]at c2
 by_cases hf:p.f=q.f
 ·rw[decide_eq_true hf,Bool.true_and]
  by_cases hn:q.n<p.n
  ·have h1:(q.n:Int)<(p.n:Int):=by omega
   have:pre p.bits q.bits=false:=by
    cases hc:pre p.bits q.bits
    ·rfl
    ·have:=(dH.1 hc).length_le
     rw[p.len,q.len]at this;omega
   rw[this]
   simp (disch:=omega) only[ay,c1,c2,hf,h1,ne_eq,not_true_eq_false]
   rw[hf]at c1
   simp (disch:=omega) only[ay,c1,ne_eq,not_true_eq_false]
  ·have h1: ¬(q.n:Int)<(p.n:Int):=by omega
   have b1:=kn p.f p.h p.l hp.r
   have b2:=kn q.f q.h q.l hq.r
   have H9:=hp.all.2.2.1
   have IY:=hq.all.2.2.1
   rw[←hf]at b2 IY
   have hw2:ac p.f≤128:=by rcases hp.DI with⟨_,h⟩ |⟨_,h⟩<;>omega
   have iU:∀ i,i<p.n→(decide (∀ j,i≤j→j<p.n→p.b j=q.b j)=(decide (p.b i=q.b i)&&decide (∀ j,i+1≤j→j<p.n→p.b j=q.b j))):=fun i hi=>by
    rw[←Bool.decide_and]
    refine decide_eq_decide.2 ⟨fun h=>⟨h i (Nat.le_refl _) hi,fun j h1 h2=>h j (by omega) h2⟩,fun ⟨h1,h2⟩ j h3 h4=> ?_⟩
    by_cases hj:j=i
    ·rw[hj];exact h1
    ·exact h2 j (by omega) h4
   have hres:pre p.bits q.bits=decide (∀ j,0≤j→j<p.n→p.b j=q.b j):=by
    rw[Bool.eq_iff_iff,dH,decide_eq_true_eq]
    exact⟨fun h j _ hj=>(si h).2 j hj,fun h=>Bu (by omega) fun i hi=>h i (Nat.zero_le _) hi⟩
   rw[hres]
   have:=bP (F:=bu.b0 (Cl ty tab) k [.ov 3 (bo (ac p.f) p.h p.l).isEmpty (bo (ac p.f) p.h p.l)] [.ov 3 (bo (ac p.f) q.h q.l).isEmpty (bo (ac p.f) q.h q.l)]) p.n
    (fun i=>[.int .i64 i,.pv [.int .u8 p.f,.int .u64 (p.h:Int),.int .u64 (p.l:Int),.int .i64 (p.n:Int)],.ov 3 (bo (ac p.f) p.h p.l).isEmpty (bo (ac p.f) p.h p.l),.ov 3 (bo (ac p.f) q.h q.l).isEmpty (bo (ac p.f) q.h q.l)])
    (fun i=>some [.bool (decide (∀ j,i≤j→j<p.n→p.b j=q.b j))]) (fun i hi again ha=> ?_) (fun again=> ?_) k (by omega) 0 (by omega)
   ·rw[←hf]at c2⊢
    simp (disch:=omega) only[ay,c1,c2,h1,b1,b2,ne_eq,not_true_eq_false]
    exact this
   ·unfold bu.b0
    have g1:=lU (h:=p.h) (l:=p.l) (show i<ac p.f by omega)
    have g2:=lU (h:=q.h) (l:=q.l) (show i<ac p.f by omega)
    have e1:bN p.h p.l (ac p.f - 1 - i)=p.b i:=rfl
    have e2:bN q.h q.l (ac p.f - 1 - i)=q.b i:=by unfold Pf.b;rw[hf]
    rw[e1]at g1
    rw[e2]at g2
    rw[iU i hi]
    by_cases hb:p.b i=q.b i
    ·simp (disch:=omega) only[ay,iv,g1,g2,hb,ne_eq,not_true_eq_false,Int.natCast_add,Int.natCast_one]at ha⊢
     exact ha
    ·have zB: ¬bi (p.b i)=bi (q.b i):=by rw[Dd];exact hb
     simp (disch:=omega) only[ay,iv,g1,g2,hb,zB,ne_eq,not_false_eq_true]
   ·unfold bu.b0
    have:decide (∀ j,p.n≤j→j<p.n→p.b j=q.b j)=true:=decide_eq_true fun j h1 h2=>by omega
    rw[this]
    have e1: ¬(p.n:Int)<(p.n:Int):=by omega
    simp (disch:=omega) only[ay,e1]
 ·rw[decide_eq_false hf,Bool.false_and]
  simp (disch:=omega) only[ay,c1,c2,hf,ne_eq,not_true_eq_false,not_false_eq_true]
theorem ze (h l:Nat) (hh:h<18446744073709551616) (hl:l<18446744073709551616) (b:Bool):∃ h' l':Nat,dR h' l'∧
  IntKind.u64.wrap (IntKind.u64.wrap ((h:Int)+h)+IntKind.u64.wrap ((l:Int).tdiv ((2^63:Nat):Int)))=(h':Int)∧IntKind.u64.wrap (IntKind.u64.wrap ((l:Int)+l)+IntKind.u64.wrap (bi b))=(l':Int)∧
  ∀ k,k<128→bN h' l' k=if k=0 then b else bN h l (k - 1):=by
 have Nb:(2:Nat)^63=9223372036854775808:=rfl
 refine⟨(2*h+l/2^63) % 2^64,(2*l+(if b=true then 1 else 0)) % 2^64,⟨Nat.mod_lt _ (by decide),Nat.mod_lt _ (by decide)⟩, ?_, ?_,fun k hk=> ?_⟩
 ·have e:(l:Int).tdiv ((2^63:Nat):Int)=((l/2^63:Nat):Int):=rfl
  rw[e,wrap_u64,wrap_u64,wrap_u64]
  omega
 ·have e:bi b=(((if b=true then 1 else 0:Nat)):Int):=by cases b<;>rfl
  rw[e,wrap_u64,wrap_u64,wrap_u64]
  omega
 ·have oE:∀ (x c j:Nat),c<2→(2*x+c).testBit j=if j=0 then decide (c=1)else x.testBit (j - 1):=fun x c j hc=>by
   cases j with
   |zero=>
    rw[if_pos rfl,Nat.testBit_zero]
    congr 1
    simp only[eq_iff_iff]
    omega
   |succ j=>
    rw[if_neg (by omega),Nat.testBit_succ,Nat.add_sub_cancel]
    congr 1
    omega
  have GP:l/2^63<2:=by omega
  have zB:(if b=true then 1 else 0:Nat)<2:=by cases b<;>decide
  have Ku:decide (l/2^63=1)=l.testBit 63:=by
   rw[Nat.testBit_eq_decide_div_mod_eq]
   apply decide_eq_decide.2
   omega
  have hb1:decide ((if b=true then 1 else 0:Nat)=1)=b:=by cases b<;>rfl
  unfold bN
  by_cases h63:63<k
  ·rw[if_pos h63,if_neg (by omega),Nat.testBit_mod_two_pow,oE _ _ _ GP]
   have:decide (k - 64<64)=true:=decide_eq_true (by omega)
   rw[this,Bool.true_and]
   by_cases h64:k=64
   ·subst h64
    rw[if_pos rfl,Ku]
    rfl
   ·rw[if_neg (by omega),if_pos (by omega)]
    congr 1
  ·rw[if_neg h63,Nat.testBit_mod_two_pow,oE _ _ _ zB]
   have:decide (k<64)=true:=decide_eq_true (by omega)
   rw[this,Bool.true_and,hb1]
   by_cases h0:k=0
   ·rw[if_pos h0,if_pos h0]
   ·rw[if_neg h0,if_neg h0,if_neg (by omega)]
theorem BF (nb:Bool) (B:List Bool) (hl:B.length≤128):∃ h l:Nat,dR h l∧Cl ty tab 87 [.sl 3 nb (B.map fun b=>D.int .i64 (bi b))]=some [tV h l]∧∀ k,k<128→bN h l k=(if k<B.length then B.getD (B.length - 1 - k) false else false):=by
 obtain⟨k,hk⟩:=bY
 have hlen:(B.map fun b=>D.int .i64 (bi b)).length=B.length:=by simp
 have pw:=sd 63 (by omega)
 have key:∀ m i,B.length - i=m→i≤B.length→∀ (h l:Nat) (c1 c2:Int),dR h l→(∀ q,q<128→bN h l q=if q<i then B.getD (i - 1 - q) false else false)→
   ∃ h' l':Nat,dR h' l'∧iter (k - i) (bh.b0 (Cl ty tab) k (B.map fun b=>D.int .i64 (bi b))) [.int .i64 i,.pv [.int .u64 c1,.int .u64 c2],.pv [.int .u64 (h:Int),.int .u64 (l:Int)]]=some [tV h' l']∧∀ q,q<128→bN h' l' q=(if q<B.length then B.getD (B.length - 1 - q) false else false):=by
  intro m
  induction m with
  |zero=>
   intro i hm hi h l c1 c2 hr hq
   have:i=B.length:=by omega
   subst this
   refine⟨h,l,hr, ?_,hq⟩
   obtain⟨k',hk'⟩:∃ k',k - B.length=k'+1:=⟨k - B.length - 1,by omega⟩
   rw[hk']
   show bh.b0 (Cl ty tab) k _ _ (iter k' _)=_
   generalize iter k' _=ag
   unfold bh.b0
   simp (disch:=omega) only[ay,hlen]
  |succ m ih=>
   intro i hm hi h l c1 c2 hr hq
   have hlt:i<B.length:=by omega
   obtain⟨h',l',hr',e1,e2,e3⟩:=ze h l hr.h hr.l B[i]
   obtain⟨h2,l2,r2,it,hq2⟩:=ih (i+1) (by omega) (by omega) h' l' c1 c2 hr' (fun q MN=>by
    rw[e3 q MN]
    by_cases h0:q=0
    ·subst h0
     rw[if_pos rfl,if_pos (by omega),show i+1 - 1 - 0=i by omega]
     simp[zq1,hlt]
    ·rw[if_neg h0,hq (q - 1) (by omega)]
     by_cases h1:q - 1<i
     ·rw[if_pos h1,if_pos (by omega)]
      congr 1
      omega
     ·rw[if_neg h1,if_neg (by omega)])
   refine⟨h2,l2,r2, ?_,hq2⟩
   obtain⟨k',hk'⟩:∃ k',k - i=k'+1:=⟨k - i - 1,by omega⟩
   rw[hk']
   rw[show k - (i+1)=k' by omega]at it
   show bh.b0 (Cl ty tab) k _ _ (iter k' _)=_
   generalize iter k' _=ag at it⊢
   unfold bh.b0
   have g:(B.map fun b=>D.int .i64 (bi b)).getD i .undef= .int .i64 (bi B[i]):=aP hlt
   have hne: ¬((2^63:Nat):Int)=0:=by decide
   have MO:Cl ty tab 89 [.int .i64 63]=some [.int .u64 ((2^63:Nat):Int)]:=pw
   generalize hP:((2^63:Nat):Int)=P at*
   simp (disch:=omega) only[ay,hlen,MO,hne,g,e1,e2,Int.natCast_add,Int.natCast_one]at it⊢
   exact it
 obtain⟨h,l,hr,it,hq⟩:=key B.length 0 (by omega) (Nat.zero_le _) 0 0 0 0 ⟨by decide,by decide⟩ (fun q _=>by simp[bN])
 refine⟨h,l,hr,lH k _ _ ?_,hq⟩
 unfold bh
 exact it
def dW (w h l:Nat):List Bool:=(List.range w).map fun i=>bN h l (w - 1 - i)
theorem e_ (w h l:Nat):(dW w h l).length=w:=by simp[dW]
theorem ER (w h l:Nat):bo w h l=(dW w h l).map fun b=>D.int .i64 (bi b):=by
 unfold bo dW
 rw[List.map_map]
 rfl
theorem Aj {p:Pf} (hr:dR p.h p.l) (hw:ac p.f≠0) (ha:bZ p.f p.h p.l=true) {m:Nat} (hm:m≤ac p.f):Cl ty tab 57 [.int .u8 p.f,tV p.h p.l,.int .i64 m]=some [(p.cut m).d,.int .i64 0]:=by
 obtain⟨k,hk⟩:=bY
 refine my k _ _ _ _ ?_
 unfold cd
 have h1: ¬(m:Int)<0:=by omega
 have h2: ¬((ac p.f:Nat):Int)<(m:Int):=by omega
 have hb:=kn p.f p.h p.l hr
 have hw2:ac p.f≤128:=by rcases bT p.f with h |⟨_,h⟩ |⟨_,h⟩<;>omega
 have Nc:0<ac p.f:=by omega
 have hne:(bo (ac p.f) p.h p.l).isEmpty=false:=by
  have:=iv (ac p.f) p.h p.l
  cases h:bo (ac p.f) p.h p.l
  ·rw[h]at this;simp at this;omega
  ·rfl
 rw[hne,ER]at hb
 have Is:∀ i,i≤ac p.f→m≤i→((dW (ac p.f) p.h p.l).take m++List.replicate (i - m) false++(dW (ac p.f) p.h p.l).drop i).length=ac p.f:=fun i hi Nf=>by
  rw[List.length_append,List.length_append,List.length_take,List.length_replicate,List.length_drop,e_]
  omega
 obtain⟨h',l',r',hA,Ak⟩:=BF false ((dW (ac p.f) p.h p.l).take m++List.replicate (ac p.f - m) false++(dW (ac p.f) p.h p.l).drop (ac p.f)) (by rw[Is _ (Nat.le_refl _) hm];exact hw2)
 rw[Is _ (Nat.le_refl _) hm]at Ak
 have heq:h'=(p.cut m).h∧l'=(p.cut m).l:=by
  have hc:=sm hr hw ha hm
  have zB:∀ k,k<ac p.f→bN h' l' k=bN (p.cut m).h (p.cut m).l k:=fun k hk=>by
   rw[Ak k (by omega),if_pos hk]
   unfold Pf.cut
   dsimp only
   rw[sk]
   have hd:(dW (ac p.f) p.h p.l).drop (ac p.f)=[]:=List.drop_eq_nil_of_le (by rw[e_];omega)
   rw[hd,List.append_nil,zq1]
   by_cases hi:ac p.f - 1 - k<m
   ·rw[List.getElem?_append_left (by rw[List.length_take,e_];omega),List.getElem?_take_of_lt hi]
    have:decide (ac p.f - m≤k)=true:=decide_eq_true (by omega)
    rw[this,Bool.true_and]
    unfold dW
    rw[List.getElem?_map,List.getElem?_range (by omega)]
    simp only[Option.map_some,Option.getD_some]
    congr 1
    omega
   ·rw[List.getElem?_append_right (by rw[List.length_take,e_];omega),List.length_take,e_,List.getElem?_replicate]
    have:decide (ac p.f - m≤k)=false:=decide_eq_false (by omega)
    rw[this,Bool.false_and]
    split<;>rfl
  have MP:bZ p.f h' l'=true:=by
   rcases bT p.f with h |⟨h4,hw4⟩ |⟨h6,hw6⟩
   ·omega
   ·rw[h4]
    unfold bZ
    have hz:∀ k,32≤k→k<128→bN h' l' k=false:=fun k h1 h2=>by rw[Ak k h2,if_neg (by omega)]
    have MQ:h'=0:=by
     apply Nat.eq_of_testBit_eq
     intro k
     rw[Nat.zero_testBit]
     by_cases hk:k<64
     ·have:=hz (k+64) (by omega) (by omega)
      unfold bN at this
      rw[if_pos (by omega),Nat.add_sub_cancel]at this
      exact this
     ·exact bW r'.h (by omega)
    have xL:l'<4294967296:=by
     have:l'=yR l' 0 % 2^32:=by
      apply Nat.eq_of_testBit_eq
      intro k
      rw[Nat.testBit_mod_two_pow,dQ]
      by_cases hk:k<32
      ·simp[hk]
      ·by_cases hk2:k<64
       ·have:=hz k (by omega) (by omega)
        unfold bN at this
        rw[if_neg (by omega)]at this
        simp[hk,this]
       ·rw[bW r'.l (by omega)]
        simp[hk]
     rw[this]
     exact Nat.mod_lt _ (by decide)
    simp[MQ,xL]
   ·rw[h6]
    rfl
  exact vm r' hc.r hw MP hc.all.2.1 zB
 have hd:(p.cut m).d=P4 p.f h' l' m:=by
  rw[heq.1,heq.2]
  rfl
 have:=bk (R:=List D) (σ:=Nat) (F:=cd.b0 (Cl ty tab) k p.f m [.ov 3 false ((dW (ac p.f) p.h p.l).map fun b=>D.int .i64 (bi b))])
  (fun i=>[.int .i64 i,.pv [.int .u8 0,.int .u64 0,.int .u64 0,.int .i64 0],.ov 3 false (((dW (ac p.f) p.h p.l).take m++List.replicate (i - m) false++(dW (ac p.f) p.h p.l).drop i).map fun b=>D.int .i64 (bi b))])
  (fun _=>some [(p.cut m).d,.int .i64 0]) (fun i=>ac p.f - i) (fun i=>m≤i∧i≤ac p.f) (fun i hi again ih=> ?_) k m ⟨Nat.le_refl _,hm⟩ (by omega)
 ·rw[Nat.sub_self,List.replicate_zero,List.append_nil,List.take_append_drop]at this
  simp (disch:=omega) only[ay,gJ,d8,ha,h1,h2,hb]
  exact this
 ·unfold cd.b0
  have Fy:((dW (ac p.f) p.h p.l).map fun b=>D.int .i64 (bi b)).length=ac p.f:=by rw[List.length_map,e_]
  rcases Nat.lt_or_ge i (ac p.f)with hlt |hge
  ·have b9:=ih (i+1) ⟨by omega,by omega⟩ (by omega)
   have Kv:(((dW (ac p.f) p.h p.l).take m++List.replicate (i - m) false++(dW (ac p.f) p.h p.l).drop i).map fun b=>D.int .i64 (bi b)).set i (.int .i64 0)=(((dW (ac p.f) p.h p.l).take m++List.replicate (i+1 - m) false++(dW (ac p.f) p.h p.l).drop (i+1)).map fun b=>D.int .i64 (bi b)):=by
    have e1:(dW (ac p.f) p.h p.l).drop i=(dW (ac p.f) p.h p.l)[i]'(by rw[e_];exact hlt)::(dW (ac p.f) p.h p.l).drop (i+1):=List.drop_eq_getElem_cons _
    have e2:((dW (ac p.f) p.h p.l).take m++List.replicate (i - m) false).length=i:=by rw[List.length_append,List.length_take,e_,List.length_replicate];omega
    rw[e1,List.map_append,List.map_cons]
    have e3:(((dW (ac p.f) p.h p.l).take m++List.replicate (i - m) false).map fun b=>D.int .i64 (bi b)).length=i:=by rw[List.length_map];exact e2
    rw[List.set_append_right _ _ (by omega),e3,Nat.sub_self,List.set_cons_zero,show i+1 - m=(i - m)+1 by omega,List.replicate_succ',←List.append_assoc,List.append_assoc (_++_) [false],List.map_append (l₁:=_++_) (l₂:=[false]++_)]
    rfl
   rw[←Kv]at b9
   clear ih Ak
   simp (disch:=omega) only[ay,Fy,Int.natCast_add,Int.natCast_one]at b9⊢
   exact b9
  ·have:i=ac p.f:=by omega
   subst this
   have e1: ¬((ac p.f:Nat):Int)<((ac p.f:Nat):Int):=by omega
   clear ih
   simp (disch:=omega) only[ay,Fy,hA]
   rw[hd]
theorem BG {p q:Pf} (hp:p.ok) (hq:q.ok) (hf:p.f=q.f):Cl ty tab 97 [p.d,q.d]=some [(p.cut (dX p.bits q.bits).length).d]:=by
 obtain⟨k,hk⟩:=bY
 refine kT k _ _ _ _ _ _ _ _ ?_
 unfold bB
 have l1:=(dm p.bits q.bits).length_le
 have l2:=(jP p.bits q.bits).length_le
 rw[p.len]at l1
 rw[q.len]at l2
 have H9:=hp.all.2.2.1
 have IY:=hq.all.2.2.1
 rw[←hf]at IY
 have hw2:ac p.f≤128:=by rcases hp.DI with⟨_,h⟩ |⟨_,h⟩<;>omega
 have key:= @xf p.bits q.bits
 rw[p.len,q.len]at key
 have same:= @t9 p.bits q.bits
 have fa:=fun m (hm:m≤ac p.f)=>Aj (p:=p) hp.r hp.all.1 hp.all.2.1 hm
 have bp:∀ i,i<p.n→Trie.aM p.bits i=p.b i:=fun i hi=>p.aM hi
 have bq:∀ i,i<q.n→Trie.aM q.bits i=q.b i:=fun i hi=>q.aM hi
 generalize hL:(dX p.bits q.bits).length=N at*
 have b1:=kn p.f p.h p.l hp.r
 have b2:=kn q.f q.h q.l hq.r
 rw[←hf]at b2
 have gp:∀ i,i<ac p.f→(bo (ac p.f) p.h p.l).getD i .undef= .int .i64 (bi (p.b i)):=fun i hi=>lU hi
 have gq:∀ i,i<ac p.f→(bo (ac p.f) q.h q.l).getD i .undef= .int .i64 (bi (q.b i)):=fun i hi=>by
  rw[lU hi]
  unfold Pf.b
  rw[hf]
 have:=bP (F:=bB.b0 (Cl ty tab) k [.ov 3 (bo (ac p.f) p.h p.l).isEmpty (bo (ac p.f) p.h p.l)] [.ov 3 (bo (ac p.f) q.h q.l).isEmpty (bo (ac p.f) q.h q.l)]) N (fun i=>[.int .i64 i,.pv [.int .u8 p.f,.int .u64 (p.h:Int),.int .u64 (p.l:Int),.int .i64 (p.n:Int)],.pv [.int .u8 q.f,.int .u64 (q.h:Int),.int .u64 (q.l:Int),.int .i64 (q.n:Int)],.pv [.int .u8 0,.int .u64 0,.int .u64 0,.int .i64 0],.ov 3 (bo (ac p.f) p.h p.l).isEmpty (bo (ac p.f) p.h p.l),.ov 3 (bo (ac p.f) q.h q.l).isEmpty (bo (ac p.f) q.h q.l)])
  (fun _=>some [(p.cut N).d]) (fun i hi again ha=> ?_) (fun again=> ?_) k (by omega) 0 (by omega)
 ·rw[←hf]at this⊢
  simp (disch:=omega) only[ay,b1,b2]
  exact this
 ·unfold bB.b0
  have h1:(i:Int)<(p.n:Int):=by omega
  have MR:(i:Int)<(q.n:Int):=by omega
  have h2:=same hi
  rw[bp i (by omega),bq i (by omega)]at h2
  have g1:=gp i (by omega)
  have g2:=gq i (by omega)
  clear gp gq same key bp bq fa
  simp (disch:=omega) only[ay,iv,g1,g2,h1,MR,h2,Int.natCast_add,Int.natCast_one]at ha⊢
  exact ha
 ·unfold bB.b0
  have hc:=fa N (by omega)
  by_cases h1:N<p.n
  ·have e1:(N:Int)<(p.n:Int):=by omega
   by_cases h2:N<q.n
   ·have e2:(N:Int)<(q.n:Int):=by omega
    have h3:=key h1 h2
    rw[bp N h1,bq N h2]at h3
    have h4: ¬bi (p.b N)=bi (q.b N):=by rw[Dd];exact h3
    have g1:=gp N (by omega)
    have g2:=gq N (by omega)
    clear gp gq same key bp bq fa
    simp (disch:=omega) only[ay,iv,g1,g2,e1,e2,h4,hc]
   ·have e2: ¬(N:Int)<(q.n:Int):=by omega
    clear gp gq same key bp bq fa
    simp (disch:=omega) only[ay,e1,e2,hc]
  ·have e1: ¬(N:Int)<(p.n:Int):=by omega
   clear gp gq same key bp bq fa
   simp (disch:=omega) only[ay,e1,hc]
end Go.Proofs.Ytkfnkiejikhglaa.Own
namespace Go.Proofs.Ytkfnkiejikhglaa.Own
open Go Go.Proofs.Ytkfnkiejikhglaa.GD Go.Proofs.Ytkfnkiejikhglaa.GD.Trie Go.Sort
theorem ES (h l h' l':Nat):∃ c:Int,Cl ty tab 65 [tV h l,tV h' l']=some [.int .i64 c]∧(c<0↔(h<h'∨(h=h'∧l<l')))∧(c=0↔(h=h'∧l=l')):=by
 by_cases h1:h=h'
 ·by_cases h2:l=l'
  ·refine⟨0,bJ 0 _ _ _ _ ?_,by omega,by simp[h1,h2]⟩
   unfold bC
   simp (disch:=omega) only[ay,h1,h2]
  ·have e1: ¬(l:Int)=l':=by omega
   have e2: ¬((h':Int)<h'):=by omega
   by_cases h3:l<l'
   ·refine⟨-1,bJ 0 _ _ _ _ ?_,by omega,by omega⟩
    unfold bC
    have:(l:Int)<l':=by omega
    simp (disch:=omega) only[ay,h1,e1,e2,this]
   ·refine⟨1,bJ 0 _ _ _ _ ?_,by omega,by omega⟩
    unfold bC
    have: ¬(l:Int)<l':=by omega
    simp (disch:=omega) only[ay,h1,e1,e2,this]
 ·have e0: ¬(h:Int)=h':=by omega
  by_cases h3:h<h'
  ·refine⟨-1,bJ 0 _ _ _ _ ?_,by omega,by omega⟩
   unfold bC
   have:(h:Int)<h':=by omega
   simp (disch:=omega) only[ay,e0,this]
  ·refine⟨1,bJ 0 _ _ _ _ ?_,by omega,by omega⟩
   unfold bC
   have: ¬(h:Int)<h':=by omega
   simp (disch:=omega) only[ay,e0,this]
theorem zf (f:Int) (h l:Nat) (n:Int) (f':Int) (h' l':Nat) (n':Int):Cl ty tab 31 [P4 f h l n,P4 f' h' l' n']=some [.bool (decide (sT f h l n f' h' l' n'<0))]:=by
 refine kj 0 _ _ _ _ _ _ _ _ ?_
 unfold gF
 obtain⟨c,hc,h1,h2⟩:=ES h l h' l'
 rw[show decide (sT f h l n f' h' l' n'<0)=decide (f<f'∨(f=f'∧(h<h'∨(h=h'∧(l<l'∨(l=l'∧n<n'))))))from decide_eq_decide.2 qE]
 by_cases hf:f=f'
 ·by_cases c0:c<0
  ·have:=h1.1 c0
   have hd:decide (f<f'∨(f=f'∧(h<h'∨(h=h'∧(l<l'∨(l=l'∧n<n'))))))=true:=decide_eq_true (by omega)
   rw[hd]
   simp (disch:=omega) only[ay,hf,hc,c0,ne_eq,not_true_eq_false]
  ·have n1:=mt h1.2 c0
   by_cases c1:c=0
   ·have:=h2.1 c1
    have hd:decide (f<f'∨(f=f'∧(h<h'∨(h=h'∧(l<l'∨(l=l'∧n<n'))))))=decide (n<n'):=decide_eq_decide.2 (by omega)
    rw[hd]
    simp (disch:=omega) only[ay,hf,hc,c1,ne_eq,not_true_eq_false,Int.lt_irrefl]
   ·have n2:=mt h2.2 c1
    have hd:decide (f<f'∨(f=f'∧(h<h'∨(h=h'∧(l<l'∨(l=l'∧n<n'))))))=false:=decide_eq_false (by omega)
    rw[hd]
    simp (disch:=omega) only[ay,hf,hc,c0,c1,ne_eq,not_true_eq_false]
 ·have hd:decide (f<f'∨(f=f'∧(h<h'∨(h=h'∧(l<l'∨(l=l'∧n<n'))))))=decide (f<f'):=decide_eq_decide.2 (by omega)
  rw[hd]
  simp (disch:=omega) only[ay,hf,ne_eq,not_false_eq_true]
def xz:Option Int→List Int→Bool
 |_,[]=>true
 |p,a::l=>decide (0≤a)&&((match p with |none=>true |some q=>decide (q<a))&&xz (some a) l)
theorem um:∀ (l:List Int) (q:Int),0≤q→xz (some q) l=y4 (q::l)
 |[],q,_=>rfl
 |a::l,q,h=>by
  unfold xz y4
  by_cases h1:q<a
  ·have h2:0≤a:=by omega
   rw[um l a h2]
   simp[h1,h2]
  ·simp[h1]
theorem BH (v:List Int):gU v=(!v.isEmpty&&(decide (v.length≤4000)&&xz none v)):=by
 cases v with
 |nil=>rfl
 |cons a l=>
  unfold gU xz
  by_cases h:0≤a
  ·rw[um l a h]
   simp[h]
  ·simp[h]
theorem zg (nb:Bool) (v:List Int):Cl ty tab 77 [.sl 3 nb (gT v)]=some [.bool (gU v)]:=by
 obtain⟨k,hk⟩:=bY
 refine kg k _ _ ?_
 unfold bt
 rw[BH]
 have hlen:(gT v).length=v.length:=by simp
 by_cases h0:v.length<1
 ·have hv:v=[]:=List.length_eq_zero_iff.1 (by omega)
  subst hv
  simp (disch:=omega) only[ay,gT,List.map_nil,Int.natCast_zero,Int.reduceLT]
  rfl
 ·have e0: ¬((v.length:Nat):Int)<1:=by omega
  have he:v.isEmpty=false:=by cases v;simp at h0;rfl
  by_cases h1:v.length≤4000
  ·have h2: ¬(4000:Int)<((v.length:Nat):Int):=by omega
   have:=bP (F:=bt.b0 (Cl ty tab) k (gT v)) v.length (fun i=>[.int .i64 i]) (fun i=>some [.bool (xz (if i=0 then none else some (v.getD (i - 1) 0)) (v.drop i))]) (fun i hi again ha=> ?_) (fun again=> ?_) k (by omega) 0 (by omega)
   ·rw[if_pos rfl,List.drop_zero]at this
    simp (disch:=omega) only[ay,hlen,e0,he,h1,h2]
    exact this
   ·unfold bt.b0
    have g1:=pr hi
    rw[List.drop_eq_getElem_cons hi]
    rw[if_neg (by omega),Nat.add_sub_cancel,show v.getD i 0=v[i]by simp[zq1,hi]]at ha
    unfold xz
    by_cases vY:v[i]<0
    ·have: ¬0≤v[i]:=by omega
     simp (disch:=omega) only[ay,hlen,g1,vY,this]
    ·have hpos:0≤v[i]:=by omega
     by_cases hi0:i=0
     ·subst hi0
      rw[if_pos rfl]
      have e1: ¬((0:Int)<((0:Nat):Int)):=by omega
      simp (disch:=omega) only[ay,hlen,g1,vY,hpos,e1,Int.natCast_add,Int.natCast_one]at ha⊢
      exact ha
     ·rw[if_neg hi0]
      have g2:=pr (show i - 1<v.length by omega)
      rw[show v.getD (i - 1) 0=v[i - 1]by simp[zq1,show i - 1<v.length by omega]]
      have e1:(0:Int)<(i:Int):=by omega
      by_cases hlt:v[i - 1]<v[i]
      ·have hle: ¬v[i]≤v[i - 1]:=by omega
       simp (disch:=omega) only[ay,hlen,g1,g2,vY,hpos,e1,hlt,hle,Int.natCast_add,Int.natCast_one]at ha⊢
       exact ha
      ·have hle:v[i]≤v[i - 1]:=by omega
       simp (disch:=omega) only[ay,hlen,g1,g2,vY,hpos,e1,hlt,hle]
   ·unfold bt.b0
    rw[List.drop_length]
    have e1: ¬((v.length:Nat):Int)<((v.length:Nat):Int):=by omega
    simp (disch:=omega) only[ay,hlen,e1,xz]
  ·have h2:(4000:Int)<((v.length:Nat):Int):=by omega
   simp (disch:=omega) only[ay,hlen,e0,he,h1,h2]
theorem looked {m:List (Px×Unit)} {ps:List Px} (h:∀ p,(eY p m).isSome=true↔p∈ps) (q:Px):∀ p,(eY p (oC q () m)).isSome=true↔p∈ps++[q]:=fun p=>by
 rw[pn,List.mem_append,List.mem_singleton]
 by_cases hp:p=q
 ·simp[hp]
 ·simp[hp,h p]
open Classical in
theorem xA (nb:Bool) (L:List Er) (hg:∀ x,x∈L→x.de) (hl:L.length≤100000):Cl ty tab 39 [.sl 49 nb (L.map aB)]=some [.int .i64 (ey [] L)]:=by
 obtain⟨k,hk⟩:=bY
 refine jO k _ _ ?_
 unfold aJ
 have hlen:(L.map aB).length=L.length:=by simp
 refine bk (F:=aJ.b0 (Cl ty tab) k (L.map aB)) (σ:=Nat×List (Px×Unit)) (fun s=>[.int .i64 s.1]) (fun s=>some [.int .i64 (ey s.2 (L.drop s.1))]) (fun s=>L.length - s.1) (fun s=>s.1≤L.length∧∀ p,(eY p s.2).isSome=true↔p∈(L.take s.1).map Er.px) (fun s hs again ih=> ?_) k (0,[]) ⟨by simp,fun p=>by simp[eY]⟩ (by simp;omega)
 obtain⟨i,m⟩:=s
 obtain⟨hs,hm⟩:=hs
 dsimp only at hs hm ih⊢
 rcases Nat.lt_or_ge i L.length with hi |hi
 ·have g:(L.map aB).getD i .undef=aB L[i]:=aP hi
  rw[List.drop_eq_getElem_cons hi]
  have hx:=hg L[i] (List.getElem_mem hi)
  have c1:=d9 L[i].f L[i].h L[i].l L[i].n hx.r
  have c2:=zg L[i].nb L[i].vs
  unfold ey
  unfold aJ.b0
  by_cases h1:cy L[i].f L[i].h L[i].l L[i].n=0
  ·cases h2:gU L[i].vs
   ·simp (disch:=omega) only[ay,hlen,g,enc,c1,c2,h1,h2,ne_eq,not_true_eq_false]
   ·have b9:=ih (i+1,oC L[i].px () m) ⟨hi,by
     have:=looked hm L[i].px
     dsimp only
     rw[List.take_add_one,zq4 hi,Option.toList_some,List.map_append]
     exact this⟩ (by dsimp only;omega)
    dsimp only at b9
    have hin:(eY L[i].px m).isSome=decide (∃ j,j<i∧∃ h:j<L.length,L[j].px=L[i].px):=by
     rw[Bool.eq_iff_iff,hm,decide_eq_true_eq,List.mem_map]
     constructor
     ·rintro⟨y,hy,he⟩
      obtain⟨j,hj,rfl⟩:=List.getElem_of_mem hy
      rw[List.length_take]at hj
      exact⟨j,by omega,by omega,by rw[List.getElem_take]at he;exact he⟩
     ·rintro⟨j,hj,qf,he⟩
      exact⟨L[j],List.mem_iff_getElem.2 ⟨j,by rw[List.length_take];omega,by rw[List.getElem_take]⟩,he⟩
    have:=bP (R:=List D) (F:=aJ.b1 (Cl ty tab) k (L.map aB) again [.int .i64 i]) i (fun j=>[.int .i64 j])
     (fun j=>if decide (∃ q,j≤q∧q<i∧∃ h:q<L.length,L[q].px=L[i].px)=true then some [.int .i64 14]else again [.int .i64 ((i+1:Nat):Int)]) (fun j hj ag ha=> ?_) (fun ag=> ?_) k (by omega) 0 (by omega)
    ·have e0:decide (∃ q,0≤q∧q<i∧∃ h:q<L.length,L[q].px=L[i].px)=decide (∃ j,j<i∧∃ h:j<L.length,L[j].px=L[i].px):=decide_eq_decide.2 ⟨fun ⟨q,_,h⟩=>⟨q,h⟩,fun ⟨q,h⟩=>⟨q,Nat.zero_le _,h⟩⟩
     rw[e0,←hin,b9]at this
     simp (disch:=omega) only[ay,hlen,g,enc,c1,c2,h1,h2,ne_eq,not_true_eq_false]
     refine this.trans ?_
     cases (eY L[i].px m).isSome<;>rfl
    ·unfold aJ.b1
     have gj:(L.map aB).getD j .undef=aB L[j]:=aP (by omega)
     have hp:=zd L[j] L[i]
     by_cases he:L[j].px=L[i].px
     ·rw[decide_eq_true he]at hp
      rw[if_pos (decide_eq_true ⟨j,Nat.le_refl _,hj,by omega,he⟩)]
      simp (disch:=omega) only[ay,hlen,g,gj,enc,hp]
     ·rw[decide_eq_false he]at hp
      have e1:decide (∃ q,j≤q∧q<i∧∃ h:q<L.length,L[q].px=L[i].px)=decide (∃ q,j+1≤q∧q<i∧∃ h:q<L.length,L[q].px=L[i].px):=decide_eq_decide.2 ⟨fun ⟨q,a,b,c,d⟩=>⟨q,by
          by_cases hq:q=j
          ·subst hq;exact absurd d he
          ·omega,b,c,d⟩,fun ⟨q,a,b⟩=>⟨q,by omega,b⟩⟩
      rw[e1]
      simp (disch:=omega) only[ay,hlen,g,gj,enc,hp]
      rw[Int.natCast_add j 1]at ha
      exact ha
    ·unfold aJ.b1
     have hno:decide (∃ q,i≤q∧q<i∧∃ h:q<L.length,L[q].px=L[i].px)=false:=decide_eq_false fun ⟨q,a,b,_⟩=>by omega
     rw[hno]
     simp only[Bool.false_eq_true,if_false]
     have e1: ¬(i:Int)<(i:Int):=by omega
     simp (disch:=omega) only[ay,e1,Int.natCast_add,Int.natCast_one]
  ·simp (disch:=omega) only[ay,hlen,g,enc,c1,h1,ne_eq,not_false_eq_true]
 ·have:i=L.length:=by omega
  subst this
  rw[List.drop_length]
  unfold aJ.b0
  have e1: ¬((L.length:Nat):Int)<((L.length:Nat):Int):=by omega
  simp (disch:=omega) only[ay,hlen,ey,e1]
theorem xB (n1 n2:Bool) (A B:List Nr) (hA:∀ x,x∈A→x.de∧x.vs.length≤5000) (hB:∀ x,x∈B→x.de∧x.vs.length≤5000) (lA:A.length≤5000) (lB:B.length≤5000):
  Cl ty tab 43 [.agg [.sl 69 n1 (A.map bL),.sl 69 n2 (B.map bL)]]=some [.ov 49 (aw (A++B)).isEmpty ((aw (A++B)).map aB)]:=by
 obtain⟨k,hk⟩:=bY
 refine lK k _ _ _ _ ?_
 unfold aQ
 have step:∀ (H:List Er) (x:Nr),x.de→x.vs.length≤5000→x.vs≠[]→((gT x.vs).isEmpty&&false)=false∧aB ⟨x.f,x.h,x.l,x.n,false,x.vs⟩= .agg [.int .u8 x.f,.int .u64 (x.h:Int),.int .u64 (x.l:Int),.int .i64 x.n,.sl 3 false (gT x.vs)]:=fun H x _ _ _=>⟨Bool.and_false _,rfl⟩
 have Kw:(A.map bL).length=A.length:=by simp
 have Kx:(B.map bL).length=B.length:=by simp
 have zh:=bP (F:=aQ.b1 (Cl ty tab) k) B.length (fun i=>[.ov 49 (aw (A++B.take i)).isEmpty ((aw (A++B.take i)).map aB),.int .i64 i,.pv [.sl 69 n1 (A.map bL),.sl 69 n2 (B.map bL)]])
  (fun _=>some [.ov 49 (aw (A++B)).isEmpty ((aw (A++B)).map aB)]) (fun i hi again ha=> ?_) (fun again=> ?_) k (by omega) 0 (by omega)
 have first:=bP (F:=aQ.b0 (Cl ty tab) k) A.length (fun i=>[.ov 49 (aw (A.take i)).isEmpty ((aw (A.take i)).map aB),.int .i64 i,.pv [.sl 69 n1 (A.map bL),.sl 69 n2 (B.map bL)]])
  (fun _=>some [.ov 49 (aw (A++B)).isEmpty ((aw (A++B)).map aB)]) (fun i hi again ha=> ?_) (fun again=> ?_) k (by omega) 0 (by omega)
 ·exact first
 ·unfold aQ.b0
  have g:(A.map bL).getD i .undef=bL A[i]:=aP hi
  have hx:=hA A[i] (List.getElem_mem hi)
  have hb:=cT (A.take i)
  rw[sB A i hi]at ha
  rw[List.length_take]at hb
  clear zh
  generalize A[i]=x at*
  generalize aw (A.take i)=H at*
  have hH:(H.map aB).length=H.length:=by simp
  cases hv:x.vs with
  |nil=>
   rw[hv]at ha
   simp only[List.isEmpty_nil,if_true,List.append_nil]at ha
   simp (disch:=omega) only[ay,Kw,g,pp,hv,gT,List.map_nil,Int.natCast_zero,Int.lt_irrefl,Int.natCast_add,Int.natCast_one]at ha⊢
   exact ha
  |cons v vs=>
   have hne:x.vs≠[]:=by rw[hv];simp
   have he:x.vs.isEmpty=false:=by rw[hv];rfl
   have e0:(0:Int)<((x.vs.length:Nat):Int):=by rw[hv];simp
   have e1:(0+x.vs.length)*8≤140737488355328:=by omega
   have Ky:x.vs.length*8≤140737488355328:=by omega
   rw[he]at ha
   simp only[Bool.false_eq_true,if_false]at ha
   have e2:∀ z:Er,(H++[z]).isEmpty=false:=fun z=>by simp
   rw[e2,List.map_append,List.map_cons,List.map_nil]at ha
   have e3:(H.length+1)*56≤140737488355328:=by omega
   have f1:=enc.2.2.2.2.2.1 ⟨x.f,x.h,x.l,x.n,false,x.vs⟩
   dsimp only at f1
   simp (disch:=omega) only[ay,Kw,g,pp,e0,e1,Ky,e3,hH,f1,Int.natCast_add,Int.natCast_one]at ha⊢
   exact ha
 ·unfold aQ.b0
  have e1: ¬((A.length:Nat):Int)<((A.length:Nat):Int):=by omega
  rw[List.take_length]
  rw[List.take_zero,List.append_nil]at zh
  simp (disch:=omega) only[ay,Kw,e1]
  exact zh
 ·unfold aQ.b1
  have g:(B.map bL).getD i .undef=bL B[i]:=aP hi
  have hx:=hB B[i] (List.getElem_mem hi)
  have hb:=cT (A++B.take i)
  have G9:A++B.take (i+1)=(A++B.take i)++[B[i]]:=by rw[List.take_add_one,zq4 hi,Option.toList_some,List.append_assoc]
  have MS:∀ x:Nr,aw [x]=if x.vs.isEmpty then []else [⟨x.f,x.h,x.l,x.n,false,x.vs⟩]:=fun x=>by cases h:x.vs.isEmpty<;>simp[aw,h]
  rw[G9,iu,MS]at ha
  rw[List.length_append,List.length_take]at hb
  generalize B[i]=x at*
  generalize aw (A++B.take i)=H at*
  have hH:(H.map aB).length=H.length:=by simp
  cases hv:x.vs with
  |nil=>
   rw[hv]at ha
   simp only[List.isEmpty_nil,if_true,List.append_nil]at ha
   simp (disch:=omega) only[ay,Kx,g,pp,hv,gT,List.map_nil,Int.natCast_zero,Int.lt_irrefl,Int.natCast_add,Int.natCast_one]at ha⊢
   exact ha
  |cons v vs=>
   have hne:x.vs≠[]:=by rw[hv];simp
   have he:x.vs.isEmpty=false:=by rw[hv];rfl
   have e0:(0:Int)<((x.vs.length:Nat):Int):=by rw[hv];simp
   have Ky:x.vs.length*8≤140737488355328:=by omega
   rw[he]at ha
   simp only[Bool.false_eq_true,if_false]at ha
   have e2:∀ z:Er,(H++[z]).isEmpty=false:=fun z=>by simp
   rw[e2,List.map_append,List.map_cons,List.map_nil]at ha
   have e3:(H.length+1)*56≤140737488355328:=by omega
   have f1:=enc.2.2.2.2.2.1 ⟨x.f,x.h,x.l,x.n,false,x.vs⟩
   dsimp only at f1
   simp (disch:=omega) only[ay,Kx,g,pp,e0,Ky,e3,hH,f1,Int.natCast_add,Int.natCast_one]at ha⊢
   exact ha
 ·unfold aQ.b1
  have e1: ¬((B.length:Nat):Int)<((B.length:Nat):Int):=by omega
  rw[List.take_length]
  simp (disch:=omega) only[ay,Kx,e1]
theorem un (n1 n2:Bool) (a b:List Nr) (hl:a.length≤9223372036854775807) (hv:∀ x,x∈a→x.vs.length≤9223372036854775807):Cl ty tab 44 [.sl 69 n1 (a.map bL),.sl 69 n2 (b.map bL)]=some [.bool (decide (a.map Nr.core=b.map Nr.core))]:=by
 obtain⟨k,hk⟩:=bY
 refine iX k _ _ _ _ ?_
 unfold a_
 have h1:(a.map bL).length=a.length:=by simp
 have h2:(b.map bL).length=b.length:=by simp
 by_cases he:a.length=b.length
 ·have:=bP (F:=a_.b0 (Cl ty tab) k (a.map bL) (b.map bL)) a.length (fun i=>[.int .i64 i]) (fun i=>some [.bool (decide ((a.map Nr.core).drop i=(b.map Nr.core).drop i))]) (fun i hi again ha=> ?_) (fun again=> ?_) k (by omega) 0 (by omega)
  ·rw[List.drop_zero,List.drop_zero]at this
   simp (disch:=omega) only[ay,h1,h2,he,ne_eq,not_true_eq_false]
   simpa using this
  ·unfold a_.b0
   rw[oG (by simpa using hi) (by simpa using (by omega:i<b.length))]
   rw[List.getElem_map,List.getElem_map]
   have I5:=hv a[i] (List.getElem_mem hi)
   have g1:(a.map bL).getD i .undef=bL a[i]:=aP hi
   have g2:(b.map bL).getD i .undef=bL b[i]:=aP (by omega)
   have hs:=qc a[i].nb b[i].nb a[i].vs b[i].vs I5
   have hp:=zd ⟨a[i].f,a[i].h,a[i].l,a[i].n,false,[]⟩ ⟨b[i].f,b[i].h,b[i].l,b[i].n,false,[]⟩
   dsimp only at hp
   have hlt:(i:Int)<((b.length:Nat):Int):=by omega
   have gL:(i:Int)<((a.length:Nat):Int):=by omega
   generalize a[i]=x at*
   generalize b[i]=y at*
   have xM:decide (x.core=y.core)=(decide ((⟨x.f,x.h,x.l,x.n,false,[]⟩:Er).px=(⟨y.f,y.h,y.l,y.n,false,[]⟩:Er).px)&&(decide (x.c0=y.c0∧x.c1=y.c1)&&decide (x.vs=y.vs))):=by
    rw[←Bool.decide_and,←Bool.decide_and]
    apply decide_eq_decide.2
    simp only[Nr.core,Er.px,Prod.mk.injEq,Px.mk.injEq]
    constructor
    ·rintro⟨a,b,c,d⟩;exact⟨a,⟨c,d⟩,b⟩
    ·rintro⟨a,⟨c,d⟩,b⟩;exact⟨a,b,c,d⟩
   rw[xM]
   generalize (⟨x.f,x.h,x.l,x.n,false,[]⟩:Er).px=px at*
   generalize (⟨y.f,y.h,y.l,y.n,false,[]⟩:Er).px=py at*
   by_cases hx:px=py
   ·rw[decide_eq_true hx]at hp
    by_cases h0:x.c0=y.c0
    ·by_cases h3:x.c1=y.c1
     ·by_cases hy:x.vs=y.vs
      ·rw[decide_eq_true hy,hy]at hs
       simp (disch:=omega) only[ay,h1,h2,g1,g2,pp,hp,hs,hx,hy,h0,h3,and_self,Int.natCast_add,Int.natCast_one]at ha⊢
       exact ha
      ·rw[decide_eq_false hy]at hs
       simp (disch:=omega) only[ay,h1,h2,g1,g2,pp,hp,hs,hx,hy,h0,h3]
     ·simp (disch:=omega) only[ay,h1,h2,g1,g2,pp,hp,hs,hx,h0,h3,and_false]
    ·simp (disch:=omega) only[ay,h1,h2,g1,g2,pp,hp,hs,hx,h0,false_and]
   ·rw[decide_eq_false hx]at hp
    simp (disch:=omega) only[ay,h1,h2,g1,g2,pp,hp,hx]
  ·unfold a_.b0
   have e1:(a.map Nr.core).drop a.length=[]:=List.drop_eq_nil_of_le (by simp)
   have e2:(b.map Nr.core).drop a.length=[]:=List.drop_eq_nil_of_le (by simp;omega)
   rw[e1,e2]
   simp (disch:=omega) only[ay,h1,h2]
 ·have hne: ¬a.map Nr.core=b.map Nr.core:=fun h=>he (by have:=congrArg List.length h;simpa using this)
  have: ¬((a.length:Nat):Int)=((b.length:Nat):Int):=by omega
  simp (disch:=omega) only[ay,h1,h2,this,hne,ne_eq,not_false_eq_true]
end Go.Proofs.Ytkfnkiejikhglaa.Own
