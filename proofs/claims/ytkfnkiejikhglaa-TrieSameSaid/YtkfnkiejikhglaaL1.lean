import Derived.Test.YtkfnkiejikhglaaG5
import Derived.Test.YtkfnkiejikhglaaR
import Derived.Sort.AssemblyPlain
import Derived.Sort.LotD4
import Derived.Sort.LotD5
set_option linter.unusedVariables false
set_option linter.unusedSimpArgs false
set_option linter.unusedSectionVars false
namespace Go.Proofs.Ytkfnkiejikhglaa.GD
open Go
theorem wrap_u64 (n:Int):IntKind.u64.wrap n=n % 18446744073709551616:=by
 simp[IntKind.wrap,IntKind.bits,IntKind.signed]
theorem ri {n:Nat} (h:n<18446744073709551616):IntKind.u64.wrap (n:Int)=n:=by rw[wrap_u64];omega
def zd (x n:Nat):Nat:=x - x % 2^n
theorem DQ (x n:Nat):zd x n=x/2^n*2^n:=by
 unfold zd
 have:=Nat.div_add_mod x (2^n)
 rw[Nat.mul_comm]at this
 omega
theorem AQ (x n:Nat):zd x n≤x:=by unfold zd;omega
theorem d6 (x n i:Nat):(zd x n).testBit i=(decide (n≤i)&&x.testBit i):=by
 rw[DQ,←Nat.shiftRight_eq_div_pow,←Nat.shiftLeft_eq,Nat.testBit_shiftLeft,Nat.testBit_shiftRight]
 by_cases h:n≤i
 ·simp[h,Nat.add_sub_cancel' h]
 ·simp[h]
theorem sO (n i:Nat) (hn:n≤64):(18446744073709551616 - 2^n).testBit i=(decide (n≤i)&&decide (i<64)):=by
 have e:18446744073709551616 - 2^n=zd (2^64 - 1) n:=by
  unfold zd
  have hle:2^n≤2^64:=Nat.pow_le_pow_right (by omega) hn
  have hpos:0<2^n:=Nat.pow_pos (by omega)
  have:(2^64 - 1) % 2^n=2^n - 1:=by
   obtain⟨k,hk⟩:∃ k,64=n+k:=⟨64 - n,by omega⟩
   have h64:(2:Nat)^64=2^n*2^k:=by rw[hk,Nat.pow_add]
   have hk1:0<2^k:=Nat.pow_pos (by omega)
   have e2:2^64 - 1=2^n*(2^k - 1)+(2^n - 1):=by
    rw[h64,Nat.mul_sub,Nat.mul_one]
    have:2^n≤2^n*2^k:=Nat.le_mul_of_pos_right _ hk1
    omega
   rw[e2,Nat.mul_add_mod,Nat.mod_eq_of_lt (by omega)]
  rw[this]
  omega
 rw[e,d6,Nat.testBit_two_pow_sub_one]
theorem pU {x n:Nat} (hx:x<18446744073709551616) (hn:n≤64):x&&&(18446744073709551616 - 2^n)=zd x n:=by
 apply Nat.eq_of_testBit_eq
 intro i
 rw[Nat.testBit_and,sO n i hn,d6]
 by_cases h:i<64
 ·simp[h,Bool.and_comm]
 ·have:x.testBit i=false:=Nat.testBit_lt_two_pow (Nat.lt_of_lt_of_le hx (by
   have:(2:Nat)^64≤2^i:=Nat.pow_le_pow_right (by omega) (by omega)
   simpa using this))
  simp[this]
theorem and_low32 {x:Nat}:x&&&4294967295=x % 4294967296:=by
 have:=Nat.and_two_pow_sub_one_eq_mod x 32
 simpa using this
theorem oc {x y:Nat} (hx:x<18446744073709551616) (hy:y<18446744073709551616):IntKind.u64.wrap (BitVec.ofInt (IntKind.u64).bits (x:Int)&&&BitVec.ofInt (IntKind.u64).bits (y:Int)).toNat=((x&&&y:Nat):Int):=by
 have e:(BitVec.ofInt (IntKind.u64).bits (x:Int)&&&BitVec.ofInt (IntKind.u64).bits (y:Int)).toNat=x&&&y:=by
  show (BitVec.ofInt 64 (x:Int)&&&BitVec.ofInt 64 (y:Int)).toNat=x&&&y
  rw[BitVec.toNat_and]
  simp only[BitVec.ofInt_natCast,BitVec.toNat_ofNat]
  rw[Nat.mod_eq_of_lt (by simpa using hx),Nat.mod_eq_of_lt (by simpa using hy)]
 rw[e]
 exact ri (Nat.lt_of_le_of_lt Nat.and_le_left hx)
theorem pV {n:Nat} (hn:n≤64):IntKind.u64.wrap (18446744073709551615*2^n)=((18446744073709551616 - 2^n:Nat):Int):=by
 have hle:2^n≤18446744073709551616:=by
  have:(2:Nat)^n≤2^64:=Nat.pow_le_pow_right (by omega) hn
  simpa using this
 have hpos:0<2^n:=Nat.pow_pos (by omega)
 rw[wrap_u64]
 have e:(18446744073709551615*2^n:Int)=((18446744073709551615*2^n:Nat):Int):=by simp
 rw[e]
 have:18446744073709551615*2^n=18446744073709551616*(2^n - 1)+(18446744073709551616 - 2^n):=by
  rw[Nat.mul_sub,Nat.mul_one]
  have:18446744073709551616≤18446744073709551616*2^n:=Nat.le_mul_of_pos_right _ hpos
  omega
 rw[this]
 omega
end Go.Proofs.Ytkfnkiejikhglaa.GD
namespace Go.Proofs.Ytkfnkiejikhglaa.Own
open Go Go.Proofs.Ytkfnkiejikhglaa.GD
def ak (f:Int):Nat:=if f=4 then 32 else if f=6 then 128 else 0
def bX (f:Int) (h l:Nat):Bool:=if f=6 then true else decide (f=4∧h=0∧l<4294967296)
def fD (f:Int) (h l n:Nat):Nat×Nat:=if 64≤n then (zd h (n - 64),0)else (h,zd l n)
def ce (h l k:Nat):Bool:=if 63<k then h.testBit (k - 64)else l.testBit k
def co (f:Int) (h l:Nat) (len:Int):Int:=
 if ak f=0 then 2 else if bX f h l=true∧0≤len∧len≤ak f∧fD f h l (ak f - len.toNat)=(h,l)then 0 else 8
abbrev ze (h l:Nat):D:= .agg [.int .u64 (h:Int),.int .u64 (l:Int)]
abbrev P4 (f:Int) (h l:Nat) (len:Int):D:= .agg [.int .u8 f,.int .u64 (h:Int),.int .u64 (l:Int),.int .i64 len]
structure fE (h l:Nat):Prop where
 h:h<18446744073709551616
 l:l<18446744073709551616
theorem cH (f:Int):Cl ty tab 88 [.int .u8 f]=some [.int .i64 (ak f:Nat)]:=by
 refine pC 0 _ ?_
 unfold l_ ak
 by_cases h4:f=4
 ·simp (disch:=omega) only[aA,h4];rfl
 ·by_cases h6:f=6
  ·simp (disch:=omega) only[aA,h4,h6];rfl
  ·simp (disch:=omega) only[aA,h4,h6];rfl
theorem fL (f:Int):Cl ty tab 58 [.int .u8 f]=some [.int .i64 (ak f:Nat)]:=by
 refine jq 0 _ ?_
 unfold fu ak
 by_cases h4:f=4
 ·simp (disch:=omega) only[aA,h4];rfl
 ·by_cases h6:f=6
  ·simp (disch:=omega) only[aA,h4,h6];rfl
  ·simp (disch:=omega) only[aA,h4,h6];rfl
theorem gM (f:Int) (h l:Nat):Cl ty tab 55 [.int .u8 f,ze h l]=some [.bool (bX f h l)]:=by
 refine li 0 _ _ _ ?_
 unfold iq bX
 by_cases h6:f=6
 ·simp (disch:=omega) only[aA,h6]
 ·by_cases h4:f=4
  ·by_cases hh:h=0
   ·have:((h:Int)=0):=by omega
    have e:decide ((l:Int)<4294967296)=decide (l<4294967296):=by simp only[decide_eq_decide];omega
    simp (disch:=omega) only[aA,h6,h4,this,hh,e,true_and]
   ·have: ¬((h:Int)=0):=by omega
    simp (disch:=omega) only[aA,h6,h4,this,hh,false_and,and_false]
  ·simp (disch:=omega) only[aA,h6,h4,false_and]
theorem mq (f:Int) (h l:Nat):Cl ty tab 56 [.int .u8 f,ze h l]=some [.bool (bX f h l)]:=by
 refine gp 0 _ _ _ ?_
 unfold dZ bX
 by_cases h4:f=4
 ·by_cases hh:h=0
  ·have:((h:Int)=0):=by omega
   have e:decide ((l:Int)≤4294967295)=decide (l<4294967296):=by simp only[decide_eq_decide];omega
   have h6: ¬(4:Int)=6:=by omega
   simp (disch:=omega) only[aA,h4,this,hh,e,true_and,h6]
  ·have: ¬((h:Int)=0):=by omega
   have h6: ¬(4:Int)=6:=by omega
   simp (disch:=omega) only[aA,h4,this,hh,false_and,and_false,h6]
 ·by_cases h6:f=6
  ·simp (disch:=omega) only[aA,h6,h4]
  ·simp (disch:=omega) only[aA,h6,h4,false_and]
theorem wz {x n m:Nat} (h:x<m):zd x n<m:=Nat.lt_of_le_of_lt (AQ x n) h
theorem sP (f:Int) (len:Int) (hf:f=4∨f=6) (h0:0≤len) (h1:len≤ak f):∃ mh ml:Nat,fE mh ml∧Cl ty tab 64 [.int .u8 f,.int .i64 len]=some [ze mh ml]∧
  ∀ h l,fE h l→bX f h l=true→(h&&&mh,l&&&ml)=fD f h l (ak f - len.toNat):=by
 have GN:∀ n,18446744073709551616 - 2^n<18446744073709551616:=fun n=>by have:0<2^n:=Nat.pow_pos (by omega);omega
 rcases hf with rfl |rfl
 ·have hw:ak 4=32:=rfl
  rw[hw]at h1⊢
  obtain⟨n,rfl⟩:∃ n:Nat,len=n:=⟨len.toNat,by omega⟩
  have e1:((18446744073709551616 - 2^(32 - n):Nat)&&&4294967295)<18446744073709551616:=Nat.lt_of_le_of_lt Nat.and_le_left (GN _)
  refine⟨0,(18446744073709551616 - 2^(32 - n))&&&4294967295,⟨by omega,e1⟩, ?_, ?_⟩
  ·refine gX 0 _ _ ?_
   unfold gL
   have e2:((32:Nat):Int) - n=((32 - n:Nat):Int):=by omega
   have e3:min (32 - n) (IntKind.u64).bits=32 - n:=by show min _ 64=_;omega
   have e4:=pV (n:=32 - n) (by omega)
   have e5:=oc (GN (32 - n)) (show 4294967295<18446744073709551616 by omega)
   simp (disch:=omega) only[aA,cH,hw,e2,e3,e4]
   rw[show ((4294967295:Int))=((4294967295:Nat):Int)from rfl,e5]
   rfl
  ·intro h l hr ha
   unfold bX at ha
   simp at ha
   obtain⟨rfl,hl⟩:=ha
   have hn: ¬64≤32 - (n:Int).toNat:=by omega
   unfold fD
   rw[if_neg hn,Int.toNat_natCast]
   have:l&&&((18446744073709551616 - 2^(32 - n))&&&4294967295)=zd l (32 - n):=by
    rw[Nat.and_comm (18446744073709551616 - 2^(32 - n)),←Nat.and_assoc,and_low32,Nat.mod_eq_of_lt hl,pU hr.l (by omega)]
   rw[this]
   simp
 ·have hw:ak 6=128:=rfl
  rw[hw]at h1⊢
  obtain⟨n,rfl⟩:∃ n:Nat,len=n:=⟨len.toNat,by omega⟩
  have e2:((128:Nat):Int) - n=((128 - n:Nat):Int):=by omega
  by_cases hn:64≤128 - n
  ·refine⟨18446744073709551616 - 2^(128 - n - 64),0,⟨GN _,by omega⟩, ?_, ?_⟩
   ·refine gX 0 _ _ ?_
    unfold gL
    have e3:min (128 - n - 64) (IntKind.u64).bits=128 - n - 64:=by show min _ 64=_;omega
    have e4:=pV (n:=128 - n - 64) (by omega)
    have e6:((128 - n:Nat):Int) - 64=((128 - n - 64:Nat):Int):=by omega
    have e7:(64:Int)≤((128 - n:Nat):Int):=by omega
    simp (disch:=omega) only[aA,cH,hw,e2,e6,e7,e3,e4,show¬(6:Int)=4 by omega]
    rfl
   ·intro h l hr ha
    unfold fD
    rw[Int.toNat_natCast,if_pos hn,pU hr.h (by omega),Nat.and_zero]
  ·refine⟨18446744073709551615,18446744073709551616 - 2^(128 - n),⟨by omega,GN _⟩, ?_, ?_⟩
   ·refine gX 0 _ _ ?_
    unfold gL
    have e3:min (128 - n) (IntKind.u64).bits=128 - n:=by show min _ 64=_;omega
    have e4:=pV (n:=128 - n) (by omega)
    have e7: ¬(64:Int)≤((128 - n:Nat):Int):=by omega
    simp (disch:=omega) only[aA,cH,hw,e2,e7,e3,e4,show¬(6:Int)=4 by omega]
    rfl
   ·intro h l hr ha
    unfold fD
    rw[Int.toNat_natCast,if_neg hn,pU hr.l (by omega)]
    have:h&&&18446744073709551615=h:=by
     have:=Nat.and_two_pow_sub_one_eq_mod h 64
     simp at this
     rw[this,Nat.mod_eq_of_lt hr.h]
    rw[this]
theorem wA (a b c d:Nat) (h1:fE a b) (h2:fE c d):Cl ty tab 63 [ze a b,ze c d]=some [ze (a&&&c) (b&&&d)]:=by
 refine sy 0 _ _ _ _ ?_
 unfold pB
 rw[oc h1.h h2.h,oc h1.l h2.l]
theorem bQ (f:Int):ak f=0∨(f=4∧ak f=32)∨(f=6∧ak f=128):=by
 unfold ak
 by_cases h4:f=4
 ·simp[h4]
 ·by_cases h6:f=6<;>simp[h4,h6]
theorem dP (f:Int) (h l:Nat) (len:Int) (hr:fE h l):Cl ty tab 62 [P4 f h l len]=some [.int .i64 (co f h l len)]:=by
 refine pD 0 _ _ _ _ ?_
 unfold ma co
 rcases bQ f with hw |hw
 ·simp (disch:=omega) only[aA,cH,hw,Int.natCast_zero]
 have BZ: ¬ak f=0:=by rcases hw with⟨_,h⟩ |⟨_,h⟩<;>omega
 have sQ: ¬((ak f:Nat):Int)=0:=by omega
 have hf:f=4∨f=6:=by rcases hw with⟨h,_⟩ |⟨h,_⟩;exact .inl h;exact .inr h
 cases ha:bX f h l
 ·simp (disch:=omega) only[aA,cH,BZ,sQ,gM,ha,false_and]
 by_cases h1:len<0
 ·have: ¬0≤len:=by omega
  simp (disch:=omega) only[aA,cH,BZ,sQ,gM,ha,h1,this,false_and,and_false]
 by_cases h2:((ak f:Nat):Int)<len
 ·have: ¬len≤((ak f:Nat):Int):=by omega
  simp (disch:=omega) only[aA,cH,BZ,sQ,gM,ha,h1,h2,this,false_and,and_false]
 obtain⟨mh,ml,hm,rj,jE⟩:=sP f len hf (by omega) (by omega)
 have hc:=jE h l hr ha
 have hand:=wA h l mh ml hr hm
 have h3:0≤len:=by omega
 have h4:len≤((ak f:Nat):Int):=by omega
 rw[←hc]
 simp (disch:=omega) only[aA,cH,BZ,sQ,gM,ha,h1,h2,rj,hand,h3,h4,true_and]
 by_cases q1:h&&&mh=h
 ·by_cases q2:l&&&ml=l
  ·have e1:((h&&&mh:Nat):Int)=h:=by rw[q1]
   have e2:((l&&&ml:Nat):Int)=l:=by rw[q2]
   rw[e1,e2]
   simp[q1,q2]
  ·have e2: ¬((l&&&ml:Nat):Int)=l:=by omega
   simp[q2,e2]
 ·have e1: ¬((h&&&mh:Nat):Int)=h:=by omega
  simp[q1,e1]
theorem uK (n:Nat) (hn:n≤63):Cl ty tab 89 [.int .i64 n]=some [.int .u64 ((2^n:Nat):Int)]:=by
 obtain⟨k,hk⟩:=cP
 refine jr k _ ?_
 unfold bg
 have:=cS (F:=bg.b0 (Cl ty tab) k n) n (fun i=>[.int .u64 ((2^i:Nat):Int),.int .i64 i]) (fun _=>some [.int .u64 ((2^n:Nat):Int)]) (fun i hi again ha=> ?_) (fun again=> ?_) k (by omega) 0 (by omega)
 ·exact this
 ·unfold bg.b0
  have h1:(2:Nat)^(i+1)<18446744073709551616:=by
   have:(2:Nat)^(i+1)≤2^63:=Nat.pow_le_pow_right (by omega) (by omega)
   have e:(2:Nat)^63=9223372036854775808:=by rfl
   omega
  have h2:IntKind.u64.wrap (((2^i:Nat):Int)+((2^i:Nat):Int))=((2^(i+1):Nat):Int):=by
   rw[Nat.pow_succ]at h1⊢
   rw[wrap_u64]
   omega
  simp (disch:=omega) only[aA,h2,Int.natCast_add,Int.natCast_one]at ha⊢
  exact ha
 ·unfold bg.b0
  simp (disch:=omega) only[aA]
def de (w h l:Nat):List D:=(List.range w).map fun i=>D.int .i64 (if ce h l (w - 1 - i)=true then 1 else 0)
theorem nE (x k:Nat):((x/2^k % 2:Nat):Int)=if x.testBit k=true then 1 else 0:=by
 rw[Nat.testBit_eq_decide_div_mod_eq]
 have:x/2^k % 2<2:=Nat.mod_lt _ (by omega)
 by_cases h:x/2^k % 2=1
 ·simp[h]
 ·have:x/2^k % 2=0:=by omega
  simp[this]
theorem uL {x k:Nat} (hx:x<18446744073709551616):IntKind.i64.wrap (Int.tmod (IntKind.u64.wrap ((x:Int).tdiv ((2^k:Nat):Int))) 2)=if x.testBit k=true then 1 else 0:=by
 have h1:(x:Int).tdiv ((2^k:Nat):Int)=((x/2^k:Nat):Int):=rfl
 have h2:x/2^k<18446744073709551616:=Nat.lt_of_le_of_lt (Nat.div_le_self _ _) hx
 rw[h1,ri h2]
 have h3:Int.tmod ((x/2^k:Nat):Int) 2=((x/2^k % 2:Nat):Int):=rfl
 rw[h3,nE]
 split<;>rfl
theorem B0 (f:Int) (h l:Nat) (hr:fE h l):Cl ty tab 61 [.int .u8 f,ze h l]=some [.ov 3 (de (ak f) h l).isEmpty (de (ak f) h l)]:=by
 obtain⟨k,hk⟩:=cP
 refine jU k _ _ _ ?_
 unfold bt
 simp (disch:=omega) only[aA,fL]
 have hw:ak f≤128:=by rcases bQ f with h |⟨_,h⟩ |⟨_,h⟩<;>omega
 have hlen:∀ i,i≤ak f→((de (ak f) h l).take i).length=i:=fun i hi=>by simp[de];omega
 have:=cS (F:=bt.b0 (Cl ty tab) k [.int .i64 (ak f:Nat)]) (ak f) (fun i=>[.ov 3 ((de (ak f) h l).take i).isEmpty ((de (ak f) h l).take i),.int .i64 i,.pv [.int .u64 (h:Int),.int .u64 (l:Int)]])
  (fun _=>some [.ov 3 (de (ak f) h l).isEmpty (de (ak f) h l)]) (fun i hi again ha=> ?_) (fun again=> ?_) k (by omega) 0 (by omega)
 ·simpa using this
 ·unfold bt.b0
  have xD:(de (ak f) h l).take (i+1)=(de (ak f) h l).take i++[D.int .i64 (if ce h l (ak f - 1 - i)=true then 1 else 0)]:=by
   rw[List.take_add_one]
   simp[de,hi]
  have hl1:=hlen i (by omega)
  rw[xD]at ha
  generalize (de (ak f) h l).take i=pre at ha hl1⊢
  have he:∀ x:D,(pre++[x]).isEmpty=false:=fun x=>by simp
  simp only[he]at ha
  have e1:((ak f:Nat):Int) - 1 - i=((ak f - 1 - i:Nat):Int):=by omega
  unfold ce at ha
  by_cases h63:63<ak f - 1 - i
  ·rw[if_pos h63]at ha
   have e2:((ak f - 1 - i:Nat):Int) - 64=((ak f - 1 - i - 64:Nat):Int):=by omega
   have e3:(63:Int)<((ak f - 1 - i:Nat):Int):=by omega
   have hp:=uK (ak f - 1 - i - 64) (by omega)
   have hne: ¬((2^(ak f - 1 - i - 64):Nat):Int)=0:=by have:0<2^(ak f - 1 - i - 64):=Nat.pow_pos (by omega);omega
   have hb:=uL (k:=ak f - 1 - i - 64) hr.h
   simp (disch:=omega) only[aA,e1,e2,e3,hp,hne,hb,hl1,Int.natCast_add,Int.natCast_one]at ha⊢
   exact ha
  ·rw[if_neg h63]at ha
   have e3: ¬(63:Int)<((ak f - 1 - i:Nat):Int):=by omega
   have hp:=uK (ak f - 1 - i) (by omega)
   have hne: ¬((2^(ak f - 1 - i):Nat):Int)=0:=by have:0<2^(ak f - 1 - i):=Nat.pow_pos (by omega);omega
   have hb:=uL (k:=ak f - 1 - i) hr.l
   simp (disch:=omega) only[aA,e1,e3,hp,hne,hb,hl1,Int.natCast_add,Int.natCast_one]at ha⊢
   exact ha
 ·unfold bt.b0
  have:(de (ak f) h l).take (ak f)=de (ak f) h l:=List.take_of_length_le (by simp[de])
  rw[this]
  simp (disch:=omega) only[aA]
theorem AR {x n:Nat}:zd x n=x↔∀ k,k<n→x.testBit k=false:=by
 constructor
 ·intro h k hk
  have:=d6 x n k
  rw[h]at this
  simpa[Nat.not_le.2 hk]using this
 ·intro h
  apply Nat.eq_of_testBit_eq
  intro i
  rw[d6]
  by_cases hi:n≤i
  ·simp[hi]
  ·simp[hi,h i (by omega)]
theorem wB {f:Int} {h l n:Nat} (hr:fE h l):fD f h l n=(h,l)↔∀ k,k<n→ce h l k=false:=by
 unfold fD ce
 by_cases hn:64≤n
 ·rw[if_pos hn]
  simp only[Prod.mk.injEq]
  rw[AR]
  constructor
  ·rintro⟨h1,rfl⟩ k hk
   by_cases h63:63<k
   ·rw[if_pos h63];exact h1 _ (by omega)
   ·rw[if_neg h63];simp
  ·intro hz
   refine⟨fun k hk=> ?_, ?_⟩
   ·have:=hz (k+64) (by omega)
    rw[if_pos (by omega)]at this
    simpa using this
   ·apply Nat.eq_of_testBit_eq
    intro i
    by_cases hi:i<64
    ·have:=hz i (by omega)
     rw[if_neg (by omega)]at this
     rw[this];simp
    ·have h2:l.testBit i=false:=Nat.testBit_lt_two_pow (Nat.lt_of_lt_of_le hr.l (by
      have:(2:Nat)^64≤2^i:=Nat.pow_le_pow_right (by omega) (by omega)
      simpa using this))
     rw[h2];simp
 ·rw[if_neg hn]
  simp only[Prod.mk.injEq,true_and]
  rw[AR]
  constructor
  ·intro h1 k hk
   rw[if_neg (by omega)];exact h1 k hk
  ·intro hz k hk
   have:=hz k hk
   rwa [if_neg (by omega)]at this
theorem zf {w h l i:Nat} (hi:i<w):(de w h l).getD i .undef= .int .i64 (if ce h l (w - 1 - i)=true then 1 else 0):=by
 simp[de,zq1,hi]
theorem m8 (f:Int) (h l:Nat) (len:Int) (hr:fE h l):Cl ty tab 28 [P4 f h l len]=some [.int .i64 (co f h l len)]:=by
 obtain⟨k,hk⟩:=cP
 refine jt k _ _ _ _ ?_
 unfold bB co
 rcases bQ f with hw |hw
 ·simp (disch:=omega) only[aA,fL,hw,Int.natCast_zero]
 have BZ: ¬ak f=0:=by rcases hw with⟨_,h⟩ |⟨_,h⟩<;>omega
 have K2:ak f≤128:=by rcases hw with⟨_,h⟩ |⟨_,h⟩<;>omega
 have sQ: ¬((ak f:Nat):Int)=0:=by omega
 cases ha:bX f h l
 ·simp (disch:=omega) only[aA,fL,BZ,sQ,mq,ha,false_and]
 by_cases h1:len<0
 ·have: ¬0≤len:=by omega
  simp (disch:=omega) only[aA,fL,BZ,sQ,mq,ha,h1,this,false_and,and_false]
 by_cases h2:((ak f:Nat):Int)<len
 ·have: ¬len≤((ak f:Nat):Int):=by omega
  simp (disch:=omega) only[aA,fL,BZ,sQ,mq,ha,h1,h2,this,false_and,and_false]
 obtain⟨n,rfl⟩:∃ n:Nat,len=n:=⟨len.toNat,by omega⟩
 have h3:(0:Int)≤(n:Int):=by omega
 have h4:(n:Int)≤((ak f:Nat):Int):=by omega
 simp (disch:=omega) only[aA,fL,BZ,sQ,mq,ha,h1,h2,h3,h4,B0 f h l hr,true_and]
 have FB:=wB (f:=f) (n:=ak f - n) hr
 have hlen:(de (ak f) h l).length=ak f:=by simp[de]
 have:=br (F:=bB.b0 (Cl ty tab) k [.int .i64 (ak f:Nat)] [.ov 3 (de (ak f) h l).isEmpty (de (ak f) h l)]) (σ:=Nat) (fun i=>[.int .i64 i,.ov 3 (de (ak f) h l).isEmpty (de (ak f) h l)])
  (fun i=>some [.int .i64 (if ∀ j,j<ak f - i→ce h l j=false then 0 else 8)]) (fun i=>ak f - i) (fun i=>i≤ak f) (fun i hi again hag=> ?_) k n (by omega) (by omega)
 ·refine Eq.trans this ?_
  by_cases hz:∀ j,j<ak f - n→ce h l j=false
  ·rw[if_pos hz,if_pos (FB.2 hz)]
  ·rw[if_neg hz,if_neg (fun h=>hz (FB.1 h))]
 ·unfold bB.b0
  rcases Nat.lt_or_ge i (ak f)with hlt |hge
  ·have hg:=zf (h:=h) (l:=l) hlt
   have xD:=hag (i+1) (by omega) (by omega)
   cases hb:ce h l (ak f - 1 - i)with
   |true=>
    have: ¬∀ j,j<ak f - i→ce h l j=false:=fun hz=>by have:=hz (ak f - 1 - i) (by omega);rw[hb]at this;cases this
    rw[hb]at hg
    simp (disch:=omega) only[aA,hg,hlen,this,Int.reduceEq]
   |false=>
    have:(∀ j,j<ak f - i→ce h l j=false)↔∀ j,j<ak f - (i+1)→ce h l j=false:=by
     constructor
     ·intro hz j hj;exact hz j (by omega)
     ·intro hz j hj
      by_cases e:j=ak f - 1 - i
      ·rw[e];exact hb
      ·exact hz j (by omega)
    simp only[this]
    rw[hb]at hg
    simp (disch:=omega) only[aA,hg,hlen,Int.natCast_add,Int.natCast_one]at xD⊢
    exact xD
  ·have:∀ j,j<ak f - i→ce h l j=false:=fun j hj=>by omega
   simp (disch:=omega) only[aA,this,implies_true]
end Go.Proofs.Ytkfnkiejikhglaa.Own
namespace Go.Proofs.Ytkfnkiejikhglaa.GD.Trie
abbrev Bs:=List Bool
def hJ:Bs→Bs→Bs
 |a::x,b::y=>if a=b then a::hJ x y else []
 |_,_=>[]
def gk:Bs→Bs→Bool
 |_,[]=>false
 |[],_::_=>true
 |a::x,b::y=>(!a&&b) ||(a==b&&gk x y)
theorem dg:∀ x y:Bs,hJ x y<+:x
 |[],y=>by cases y<;>simp[hJ]
 |a::x,[]=>by simp[hJ]
 |a::x,b::y=>by
  unfold hJ
  split
  ·exact (List.prefix_cons_inj a).2 (dg x y)
  ·exact List.nil_prefix
theorem jV:∀ x y:Bs,hJ x y<+:y
 |[],y=>by cases y<;>simp[hJ]
 |a::x,[]=>by simp[hJ]
 |a::x,b::y=>by
  unfold hJ
  split
  ·rename_i h;subst h;exact (List.prefix_cons_inj a).2 (jV x y)
  ·exact List.nil_prefix
theorem uM:∀ x:Bs,hJ x x=x
 |[]=>rfl
 |a::x=>by simp[hJ,uM x]
theorem sR:∀ t x y:Bs,hJ (t++x) (t++y)=t++hJ x y
 |[],x,y=>rfl
 |a::t,x,y=>by simp[hJ,sR t x y]
theorem xE {t x y:Bs} (h1:t<+:x) (h2:t<+:y):t<+:hJ x y:=by
 obtain⟨x,rfl⟩:=h1;obtain⟨y,rfl⟩:=h2
 rw[sR];exact List.prefix_append ..
theorem fZ:∀ x:Bs,gk x x=false
 |[]=>rfl
 |a::x=>by cases a<;>simp[gk,fZ x]
theorem sS:∀ t x y:Bs,gk (t++x) (t++y)=gk x y
 |[],x,y=>rfl
 |a::t,x,y=>by cases a<;>simp[gk,sS t x y]
theorem m9:∀ {x y z:Bs},gk x y=true→gk y z=true→gk x z=true
 |_,[],_,h,_=>by cases ‹Bs›<;>simp[gk]at h
 |_,_::_,[],_,h=>by simp[gk]at h
 |[],_::_,_::_,_,_=>rfl
 |a::x,b::y,c::z,h1,h2=>by
  have ih:= @m9 x y z
  cases a<;>cases b<;>cases c<;>simp[gk]at h1 h2⊢
  ·exact ih h1 h2
  ·exact ih h1 h2
theorem sT:∀ x y:Bs,gk x y=true∨x=y∨gk y x=true
 |[],[]=> .inr (.inl rfl)
 |[],_::_=> .inl rfl
 |_::_,[]=> .inr (.inr rfl)
 |a::x,b::y=>by
  have ih:=sT x y
  cases a<;>cases b<;>simp[gk]<;>simpa using ih
theorem rk {x y:Bs} (h:gk x y=true):gk y x=false:=by
 cases h2:gk y x
 ·rfl
 ·have:=m9 h h2;rw[fZ]at this;cases this
theorem AS {x y:Bs} (h:gk x y=true):x≠y:=by
 rintro rfl;rw[fZ]at h;cases h
theorem xF {x y:Bs} (h:x<+:y) (hn:x≠y):gk x y=true:=by
 obtain⟨s,rfl⟩:=h
 have:=sS x [] s
 rw[List.append_nil]at this
 rw[this]
 cases s
 ·simp at hn
 ·rfl
def FC (x y:Bs):Prop:=x=y∨gk x y=true
theorem B1 {x y z:Bs} (h:gk x y=true) (h2:FC y z):gk x z=true:=by
 rcases h2 with rfl |h2
 ·exact h
 ·exact m9 h h2
theorem xG:∀ {t x y z:Bs},t<+:x→t<+:z→FC x y→FC y z→t<+:y
 |[],_,_,_,_,_,_,_=>List.nil_prefix
 |a::t,x,y,z,hx,hz,h1,h2=>by
  obtain⟨x,rfl⟩:=hx;obtain⟨z,rfl⟩:=hz
  rcases h1 with rfl |h1
  ·exact List.prefix_append ..
  rcases h2 with rfl |h2
  ·exact List.prefix_append ..
  cases y with
  |nil=>simp[gk]at h1
  |cons b y=>
   have ih:= @xG t (t++x) y (t++z) (List.prefix_append ..) (List.prefix_append ..)
   have hb:b=a∧gk (t++x) y=true∧gk y (t++z)=true:=by
    cases a<;>cases b<;>simp[gk]at h1 h2<;>simp[h1,h2]
   obtain⟨rfl,g1,g2⟩:=hb
   exact (List.prefix_cons_inj b).2 (ih (.inr g1) (.inr g2))
structure En where
 k:Bs
 v:List Int
deriving Inhabited
structure Nd where
 k:Bs
 v:List Int
 c0:Int
 c1:Int
deriving Inhabited
def aJ (k:Bs) (i:Nat):Bool:=k.getD i false
theorem iu (t s:Bs) (b:Bool):aJ (t++b::s) t.length=b:=by simp[aJ,List.getD_eq_getElem?_getD]
abbrev qk (l:List En):Prop:=l.Pairwise fun a b=>gk a.k b.k=true
def ix (l:List En) (b:Nat):Int:=if l.isEmpty then -1 else b
def aD (e:En) (r:List En):List En:=if e.k=hJ e.k (r.getLastD e).k then r else e::r
def aI (e:En) (r:List En):Bs:=hJ e.k (r.getLastD e).k
def nF (t:Bs) (l:List En):List En:=l.takeWhile fun x=> !aJ x.k t.length
def sV (t:Bs) (l:List En):List En:=l.dropWhile fun x=> !aJ x.k t.length
def bC:Nat→Nat→List En→List Nd
 |0,_,_=>[]
 |_+1,_,[]=>[]
 |n+1,base,e::r=>
  ⟨aI e r,if e.k=aI e r then e.v else [],ix (nF (aI e r) (aD e r)) (base+1),ix (sV (aI e r) (aD e r)) (base+1+(bC n (base+1) (nF (aI e r) (aD e r))).length)⟩::
   (bC n (base+1) (nF (aI e r) (aD e r))++bC n (base+1+(bC n (base+1) (nF (aI e r) (aD e r))).length) (sV (aI e r) (aD e r)))
theorem cM (n base:Nat):bC n base []=[]:=by cases n<;>rfl
theorem mr (e:En) (r:List En):r.getLastD e∈e::r:=by
 rcases List.eq_nil_or_concat r with rfl |⟨r',a,rfl⟩
 ·simp
 ·simp[List.getLastD_concat]
theorem mu {e:En} {r:List En} (h:qk (e::r)) {x:En} (hx:x∈e::r):FC e.k x.k∧FC x.k (r.getLastD e).k:=by
 constructor
 ·rcases List.mem_cons.1 hx with rfl |hx
  ·exact .inl rfl
  ·exact .inr ((List.pairwise_cons.1 h).1 x hx)
 ·rcases List.eq_nil_or_concat r with rfl |⟨r',a,rfl⟩
  ·simp at hx;subst hx;exact .inl rfl
  ·rw[List.concat_eq_append]at*
   rw[List.getLastD_concat]
   have:(e::(r'++[a]))=(e::r')++[a]:=rfl
   rw[this]at h hx
   rcases List.mem_append.1 hx with hx |hx
   ·exact .inr ((List.pairwise_append.1 h).2.2 x hx a (by simp))
   ·simp at hx;subst hx;exact .inl rfl
theorem xH {e:En} {r:List En} (h:qk (e::r)) {x:En} (hx:x∈e::r):aI e r<+:x.k:=
 xG (dg _ _) (jV _ _) (mu h hx).1 (mu h hx).2
theorem dM {e:En} {r:List En} {x:En} (hx:x∈aD e r):x∈e::r:=by
 unfold aD at hx
 split at hx
 ·exact List.mem_cons_of_mem _ hx
 ·exact hx
theorem B4 {e:En} {r:List En} (h:qk (e::r)) {x:En} (hx:x∈aD e r):x.k≠aI e r:=by
 have E3:=dM hx
 unfold aD at hx
 split at hx
 ·rename_i he
  have:gk e.k x.k=true:=(List.pairwise_cons.1 h).1 x hx
  intro hc
  rw[hc]at this
  exact AS this he
 ·rename_i he
  intro hc
  have h1:gk (aI e r) e.k=true:=xF (dg _ _) (fun hh=>he hh.symm)
  have h2:=B1 h1 (mu h E3).1
  exact AS h2 hc.symm
theorem uN {e:En} {r:List En} (h:qk (e::r)):qk (aD e r):=by
 unfold aD
 split
 ·exact (List.pairwise_cons.1 h).2
 ·exact h
theorem AU {e:En} {r:List En} (h:qk (e::r)) {x:En} (hx:x∈aD e r):aI e r++[aJ x.k (aI e r).length]<+:x.k:=by
 obtain⟨s,hs⟩:=xH h (dM hx)
 have hn:=B4 h hx
 cases s with
 |nil=>rw[List.append_nil]at hs;exact absurd hs.symm hn
 |cons b s=>
  rw[←hs,iu]
  exact⟨s,by simp⟩
theorem uO {t s u:Bs} {a b:Bool} (h:gk (t++a::s) (t++b::u)=true):a=true→b=true:=by
 rw[sS]at h
 intro ha;subst ha
 cases b
 ·simp[gk]at h
 ·rfl
theorem B5 {t k:Bs} {b:Bool} (h:t++[b]<+:k):aJ k t.length=b:=by
 obtain⟨s,rfl⟩:=h
 rw[List.append_assoc,List.singleton_append,iu]
theorem sX {t:Bs} {l:List En} {x:En} (h:x∈nF t l):aJ x.k t.length=false∧x∈l:=by
 unfold nF at h
 induction l with
 |nil=>simp at h
 |cons a l ih=>
  rw[List.takeWhile_cons]at h
  split at h
  ·rename_i ha
   rcases List.mem_cons.1 h with rfl |h
   ·exact⟨by simpa using ha,List.mem_cons_self ..⟩
   ·exact⟨(ih h).1,List.mem_cons_of_mem _ (ih h).2⟩
  ·simp at h
theorem xI (t:Bs) (l:List En):nF t l++sV t l=l:=List.takeWhile_append_dropWhile
theorem uP {t:Bs}:∀ {l:List En},qk l→(∀ x,x∈l→t++[aJ x.k t.length]<+:x.k)→∀ {x},x∈sV t l→aJ x.k t.length=true
 |[],_,_,x,h=>by simp[sV]at h
 |a::l,hs,hp,x,h=>by
  unfold sV at h
  rw[List.dropWhile_cons]at h
  split at h
  ·exact uP (List.pairwise_cons.1 hs).2 (fun y hy=>hp y (List.mem_cons_of_mem _ hy)) h
  ·rename_i ha
   have ha:aJ a.k t.length=true:=by simpa using ha
   rcases List.mem_cons.1 h with rfl |h
   ·exact ha
   ·have h1:=(List.pairwise_cons.1 hs).1 x h
    obtain⟨s1,e1⟩:=hp a (List.mem_cons_self ..)
    obtain⟨s2,e2⟩:=hp x (List.mem_cons_of_mem _ h)
    rw[ha]at e1
    rw[←e1,←e2,List.append_assoc,List.append_assoc]at h1
    exact uO h1 rfl
structure FD (e:En) (r Z O:List En):Prop where
 vm:Z++O=aD e r
 zp:∀ x,x∈Z→aI e r++[false]<+:x.k
 op:∀ x,x∈O→aI e r++[true]<+:x.k
 zl:Z.length≤r.length
 ol:O.length≤r.length
 zs:qk Z
 os:qk O
 two:e.k≠aI e r→Z≠[]∧O≠[]
 Mx:∀ x,x∈e::r→aI e r<+:x.k
theorem fj {e:En} {r:List En} (h:qk (e::r)):FD e r (nF (aI e r) (aD e r)) (sV (aI e r) (aD e r)):=by
 have hb:=fun x hx=>AU (x:=x) h hx
 have ha:=xI (aI e r) (aD e r)
 have GP:∀ x,x∈nF (aI e r) (aD e r)→aI e r++[false]<+:x.k:=fun x hx=>by
  have:=hb x (sX hx).2
  rwa [(sX hx).1]at this
 have aP:∀ x,x∈sV (aI e r) (aD e r)→aI e r++[true]<+:x.k:=fun x hx=>by
  have h1:x∈aD e r:=by rw[←ha];exact List.mem_append_right _ hx
  have:=hb x h1
  rwa [uP (uN h) hb hx]at this
 have hs:=uN h
 rw[←ha]at hs
 have zg:e.k≠aI e r→nF (aI e r) (aD e r)≠[]∧sV (aI e r) (aD e r)≠[]:=by
  intro hne
  have hr:aD e r=e::r:=by unfold aD;exact if_neg hne
  have he:=hb e (by rw[hr];exact List.mem_cons_self ..)
  have hl:=hb (r.getLastD e) (by rw[hr];exact mr e r)
  have hlt:gk e.k (r.getLastD e).k=true:=by
   rcases (mu h (List.mem_cons_self ..)).2 with h1 |h1
   ·exact absurd (show e.k=aI e r by unfold aI;rw[←h1,uM]) hne
   ·exact h1
  have hd:aJ e.k (aI e r).length=false∧aJ (r.getLastD e).k (aI e r).length=true:=by
   obtain⟨s1,e1⟩:=he
   obtain⟨s2,e2⟩:=hl
   have zh:aI e r=hJ e.k (r.getLastD e).k:=rfl
   generalize hA:aJ e.k (aI e r).length=A at*
   generalize hB:aJ (r.getLastD e).k (aI e r).length=B at*
   generalize aI e r=t at*
   rw[←e1,←e2,List.append_assoc,List.append_assoc,sR]at zh
   rw[←e1,←e2,List.append_assoc,List.append_assoc]at hlt
   have xp:hJ ([A]++s1) ([B]++s2)=[]:=by
    have:=congrArg List.length zh
    rw[List.length_append]at this
    exact List.length_eq_zero_iff.1 (by omega)
   cases A<;>cases B
   ·simp[hJ]at xp
   ·exact⟨rfl,rfl⟩
   ·exact absurd (uO hlt rfl) (by simp)
   ·simp[hJ]at xp
  constructor
  ·rw[hr];unfold nF;rw[List.takeWhile_cons,hd.1];simp
  ·intro hn
   rw[hn,List.append_nil,hr]at ha
   have:r.getLastD e∈nF (aI e r) (aD e r):=by rw[hr,ha];exact mr e r
   have:=(sX this).1
   rw[hd.2]at this;cases this
 have hlen:(nF (aI e r) (aD e r)).length+(sV (aI e r) (aD e r)).length=(aD e r).length:=by rw[←List.length_append,ha]
 have Fk:(nF (aI e r) (aD e r)).length≤r.length∧(sV (aI e r) (aD e r)).length≤r.length:=by
  by_cases hne:e.k=aI e r
  ·have:aD e r=r:=by unfold aD;exact if_pos hne
   rw[this]at hlen⊢
   omega
  ·have hr:aD e r=e::r:=by unfold aD;exact if_neg hne
   have:=zg hne
   have h1:=List.length_pos_iff.2 this.1
   have h2:=List.length_pos_iff.2 this.2
   rw[hr]at hlen h1 h2⊢
   simp only[List.length_cons]at hlen
   omega
 exact⟨ha,GP,aP,Fk.1,Fk.2,(List.pairwise_append.1 hs).1,(List.pairwise_append.1 hs).2.1,zg,fun x hx=>xH h hx⟩
def jW (l:List En):List Nd:=bC l.length 0 l
def own (l:List Nd):List En:=(l.filter fun x=> !x.v.isEmpty).map fun x=>⟨x.k,x.v⟩
theorem od (a b:List Nd):own (a++b)=own a++own b:=by simp[own]
theorem mw:∀ (n base:Nat) (l:List En),qk l→l.length≤n→(∀ e,e∈l→e.v≠[])→own (bC n base l)=l
 |n,base,[],_,_,_=>by rw[cM];rfl
 |0,base,e::r,_,h,_=>by simp at h
 |n+1,base,e::r,hs,hn,hv=>by
  have sp:=fj hs
  simp only[List.length_cons]at hn
  have C8:∀ x,x∈aD e r→x.v≠[]:=fun x hx=>hv x (dM hx)
  have hz:=fun b=>mw n b _ sp.zs (by have:=sp.zl;omega) (fun x hx=>C8 x (by rw[←sp.vm];exact List.mem_append_left _ hx))
  have ho:=fun b=>mw n b _ sp.os (by have:=sp.ol;omega) (fun x hx=>C8 x (by rw[←sp.vm];exact List.mem_append_right _ hx))
  simp only[bC]
  rw[show ∀ (x:Nd) (l:List Nd),x::l=[x]++l from fun _ _=>rfl,od,od,hz,ho,sp.vm]
  have DR:=hv e (List.mem_cons_self ..)
  by_cases he:e.k=aI e r
  ·have h1:aD e r=r:=by unfold aD;exact if_pos he
   rw[h1,if_pos he,←he]
   simp[own,DR]
  ·have h1:aD e r=e::r:=by unfold aD;exact if_neg he
   rw[h1,if_neg he]
   simp[own]
theorem my:∀ (n base:Nat) (l:List En) (t:Bs),qk l→l.length≤n→(∀ e,e∈l→t<+:e.k)→∀ x,x∈bC n base l→t<+:x.k
 |n,base,[],t,_,_,_,x,hx=>by rw[cM]at hx;cases hx
 |0,base,e::r,t,_,h,_,x,hx=>by simp at h
 |n+1,base,e::r,t,hs,hn,hp,x,hx=>by
  have sp:=fj hs
  simp only[List.length_cons]at hn
  have FE:∀ y,y∈aD e r→t<+:y.k:=fun y hy=>hp y (dM hy)
  simp only[bC]at hx
  rcases List.mem_cons.1 hx with rfl |hx
  ·exact xE (hp e (List.mem_cons_self ..)) (hp _ (mr e r))
  rcases List.mem_append.1 hx with hx |hx
  ·exact my n _ _ t sp.zs (by have:=sp.zl;omega) (fun y hy=>FE y (by rw[←sp.vm];exact List.mem_append_left _ hy)) x hx
  ·exact my n _ _ t sp.os (by have:=sp.ol;omega) (fun y hy=>FE y (by rw[←sp.vm];exact List.mem_append_right _ hy)) x hx
theorem jX:∀ (n base:Nat) (l:List En),qk l→l.length≤n→l≠[]→1≤(bC n base l).length∧(bC n base l).length+1≤2*l.length
 |n,base,[],_,_,h=>absurd rfl h
 |0,base,e::r,_,h,_=>by simp at h
 |n+1,base,e::r,hs,hn,_=>by
  have sp:=fj hs
  simp only[List.length_cons]at hn
  have hz:=fun b=>jX n b _ sp.zs (by have:=sp.zl;omega)
  have ho:=fun b=>jX n b _ sp.os (by have:=sp.ol;omega)
  simp only[bC,List.length_cons,List.length_append]
  generalize hZ:nF (aI e r) (aD e r)=Z at*
  generalize hO:sV (aI e r) (aD e r)=O at*
  have qs:=congrArg List.length sp.vm
  rw[List.length_append]at qs
  have H6:(aD e r).length≤r.length+1∧(e.k=aI e r→(aD e r).length=r.length):=by
   unfold aD
   refine⟨by split<;>simp,fun h=>by rw[if_pos (show e.k=hJ e.k (r.getLastD e).k from h)]⟩
  refine⟨by omega, ?_⟩
  by_cases GQ:Z=[]
  ·by_cases ho0:O=[]
   ·subst GQ ho0
    simp only[cM,List.length_nil]
    omega
   ·have h2:=ho (base+1+(bC n (base+1) Z).length) ho0
    have he:e.k=aI e r:=Classical.byContradiction fun hc=>(sp.two hc).1 GQ
    have:=H6.2 he
    subst GQ
    simp only[cM,List.length_nil]at*
    omega
  ·have h1:=hz (base+1) GQ
   by_cases ho0:O=[]
   ·have he:e.k=aI e r:=Classical.byContradiction fun hc=>(sp.two hc).2 ho0
    have:=H6.2 he
    subst ho0
    simp only[cM,List.length_nil]at*
    omega
   ·have h2:=ho (base+1+(bC n (base+1) Z).length) ho0
    omega
def child (x:Nd) (b:Bool):Int:=if b then x.c1 else x.c0
def AV (G:List Nd) (base:Nat) (i:Nat):Prop:=∀ x,G[i]? =some x→(x.v=[]→0≤x.c0∧0≤x.c1)∧
 ∀ b,child x b= -1∨∃ j y,child x b=((base+j:Nat):Int)∧i<j∧G[j]? =some y∧x.k++[b]<+:y.k
theorem rl {n base:Nat} {l:List En} (hn:l.length≤n) (h:l≠[]):∃ y,(bC n base l)[0]? =some y:=by
 cases l with
 |nil=>exact absurd rfl h
 |cons e r=>
  cases n with
  |zero=>simp at hn
  |succ n=>exact⟨_,rfl⟩
theorem kj:∀ (n base:Nat) (l:List En),qk l→l.length≤n→(∀ e,e∈l→e.v≠[])→∀ i,AV (bC n base l) base i
 |n,base,[],_,_,_,i=>by intro x hx;rw[cM]at hx;simp at hx
 |0,base,e::r,_,h,_,i=>by simp at h
 |n+1,base,e::r,hs,hn,hv,i=>by
  have sp:=fj hs
  simp only[List.length_cons]at hn
  have C8:∀ x,x∈aD e r→x.v≠[]:=fun x hx=>hv x (dM hx)
  have hz:=fun b=>kj n b _ sp.zs (by have:=sp.zl;omega) (fun x hx=>C8 x (by rw[←sp.vm];exact List.mem_append_left _ hx))
  have ho:=fun b=>kj n b _ sp.os (by have:=sp.ol;omega) (fun x hx=>C8 x (by rw[←sp.vm];exact List.mem_append_right _ hx))
  have pz:=fun b=>my n b _ _ sp.zs (by have:=sp.zl;omega) sp.zp
  have po:=fun b=>my n b _ _ sp.os (by have:=sp.ol;omega) sp.op
  have gz:=fun b=> @rl n b (nF (aI e r) (aD e r)) (by have:=sp.zl;omega)
  have go:=fun b=> @rl n b (sV (aI e r) (aD e r)) (by have:=sp.ol;omega)
  have two:=sp.two
  intro x hx
  simp only[bC]at hx⊢
  generalize hZ:nF (aI e r) (aD e r)=Z at*
  generalize hO:sV (aI e r) (aD e r)=O at*
  generalize GR:bC n (base+1) Z=GZ at*
  have gz:=gz (base+1);have pz:=pz (base+1);have hz:=hz (base+1)
  rw[GR]at gz pz hz
  have go:=go (base+1+GZ.length);have po:=po (base+1+GZ.length);have ho:=ho (base+1+GZ.length)
  generalize K3:bC n (base+1+GZ.length) O=GO at*
  cases i with
  |zero=>
   simp only[List.getElem?_cons_zero,Option.some.injEq]at hx
   subst hx
   dsimp only
   constructor
   ·intro hv0
    have hne:e.k≠aI e r:=fun he=>by rw[if_pos he]at hv0;exact hv e (List.mem_cons_self ..) hv0
    have:=two hne
    unfold ix
    rw[if_neg (by simpa using this.1),if_neg (by simpa using this.2)]
    omega
   ·intro b
    cases b
    ·show ix Z (base+1)= -1∨_
     unfold ix
     by_cases H7:Z=[]
     ·left;simp[H7]
     ·right
      obtain⟨y,hy⟩:=gz H7
      have K4:y∈GZ:=List.mem_of_getElem? hy
      refine⟨1,y, ?_,by omega, ?_,pz y K4⟩
      ·show ix Z (base+1)=_
       unfold ix
       rw[if_neg (by simpa using H7)]
      ·have hlt:0<GZ.length:=List.length_pos_of_mem K4
       rw[List.getElem?_cons_succ,List.getElem?_append_left hlt]
       exact hy
    ·show ix O (base+1+GZ.length)= -1∨_
     unfold ix
     by_cases H8:O=[]
     ·left;simp[H8]
     ·right
      obtain⟨y,hy⟩:=go H8
      refine⟨1+GZ.length,y, ?_,by omega, ?_,po y (List.mem_of_getElem? hy)⟩
      ·show ix O (base+1+GZ.length)=_
       unfold ix
       rw[if_neg (by simpa using H8)]
       omega
      ·rw[show 1+GZ.length=GZ.length+1 by omega,List.getElem?_cons_succ,List.getElem?_append_right (Nat.le_refl _),Nat.sub_self]
       exact hy
  |succ i=>
   rw[List.getElem?_cons_succ]at hx
   by_cases hi:i<GZ.length
   ·rw[List.getElem?_append_left hi]at hx
    obtain⟨h1,h2⟩:=hz i x hx
    refine⟨h1,fun b=>(h2 b).imp id fun ⟨j,y,e1,e2,e3,e4⟩=>⟨j+1,y,by rw[e1];omega,by omega, ?_,e4⟩⟩
    have:j<GZ.length:=(List.getElem?_eq_some_iff.1 e3).1
    rw[List.getElem?_cons_succ,List.getElem?_append_left this]
    exact e3
   ·rw[List.getElem?_append_right (by omega)]at hx
    obtain⟨h1,h2⟩:=ho (i - GZ.length) x hx
    refine⟨h1,fun b=>(h2 b).imp id fun ⟨j,y,e1,e2,e3,e4⟩=>⟨j+GZ.length+1,y,by rw[e1];omega,by omega, ?_,e4⟩⟩
    rw[List.getElem?_cons_succ,List.getElem?_append_right (by omega),Nat.add_sub_cancel]
    exact e3
end Go.Proofs.Ytkfnkiejikhglaa.GD.Trie
namespace Go.Proofs.Ytkfnkiejikhglaa.GD.Trie
def pre (t k:Bs):Bool:=t.isPrefixOf k
theorem eU {t k:Bs}:pre t k=true↔t<+:k:=List.isPrefixOf_iff_prefix
def walk (G:List Nd) (p:Bs):Nat→Int→List Nd
 |0,_=>[]
 |n+1,i=>if i<0 then []else match G[i.toNat]? with
  |none=>[]
  |some x=>if pre x.k p=true then x::(if p.length≤x.k.length then []else walk G p n (child x (aJ p x.k.length)))else []
theorem f7 {G:List Nd} {p:Bs} (n:Nat) {i:Int} (h:i<0):walk G p n i=[]:=by
 cases n
 ·rfl
 ·simp[walk,h]
def C9 (G:List Nd):Prop:=∀ (i:Nat) (x:Nd),G[i]? =some x→∀ b,child x b= -1∨(i:Int)<child x b
theorem rq {G:List Nd} (hG:C9 G) (p:Bs):∀ (n m i:Nat),G.length - i≤n→G.length - i≤m→walk G p n i=walk G p m i
 |0,0,i,_,_=>rfl
 |0,m+1,i,h,_=>by
  have:G[((i:Nat):Int).toNat]? =none:=List.getElem?_eq_none (by omega)
  simp only[walk,this];split<;>rfl
 |n+1,0,i,_,h=>by
  have:G[((i:Nat):Int).toNat]? =none:=List.getElem?_eq_none (by omega)
  simp only[walk,this];split<;>rfl
 |n+1,m+1,i,h1,h2=>by
  simp only[walk,Int.toNat_natCast]
  rw[if_neg (by omega),if_neg (by omega)]
  cases hx:G[i]? with
  |none=>rfl
  |some x=>
   dsimp only
   have hi:i<G.length:=(List.getElem?_eq_some_iff.1 hx).1
   have hr:walk G p n (child x (aJ p x.k.length))=walk G p m (child x (aJ p x.k.length)):=by
    rcases hG i x hx (aJ p x.k.length)with h |h
    ·rw[f7 n (by omega),f7 m (by omega)]
    ·have e:child x (aJ p x.k.length)=(((child x (aJ p x.k.length)).toNat:Nat):Int):=by omega
     rw[e]
     exact rq hG p n m _ (by omega) (by omega)
   rw[hr]
theorem qt {t s p:Bs} (h:t<+:s):pre t p=false→pre s p=false:=by
 intro h1
 cases h2:pre s p
 ·rfl
 ·rw[eU.2 (h.trans (eU.1 h2))]at h1;cases h1
theorem gR {α:Type} {f:α→Bool} {l:List α} (h:∀ x,x∈l→f x=false):l.filter f=[]:=by
 rw[List.filter_eq_nil_iff]
 intro x hx;simp[h x hx]
theorem pW (G:List Nd) (p:Bs):∀ (n m base:Nat) (l:List En),qk l→l.length≤n→l.length≤m→(∀ e,e∈l→e.v≠[])→
  (∀ i x,(bC n base l)[i]? =some x→G[base+i]? =some x)→own (walk G p m (ix l base))=l.filter fun e=>pre e.k p
 |n,m,base,[],_,_,_,_,_=>by rw[f7 m (by simp[ix])];rfl
 |0,m,base,e::r,_,h,_,_,_=>by simp at h
 |n+1,0,base,e::r,_,_,h,_,_=>by simp at h
 |n+1,m+1,base,e::r,hs,hn,hm,hv,hG=>by
  have sp:=fj hs
  simp only[List.length_cons]at hn hm
  have C8:∀ x,x∈aD e r→x.v≠[]:=fun x hx=>hv x (dM hx)
  have hz:=fun b=>pW G p n m b _ sp.zs (by have:=sp.zl;omega) (by have:=sp.zl;omega) (fun x hx=>C8 x (by rw[←sp.vm];exact List.mem_append_left _ hx))
  have ho:=fun b=>pW G p n m b _ sp.os (by have:=sp.ol;omega) (by have:=sp.ol;omega) (fun x hx=>C8 x (by rw[←sp.vm];exact List.mem_append_right _ hx))
  simp only[bC]at hG
  have qs:=sp.vm;have GP:=sp.zp;have aP:=sp.op;have zh:=sp.Mx
  generalize hZ:nF (aI e r) (aD e r)=Z at*
  generalize hO:sV (aI e r) (aD e r)=O at*
  generalize GR:bC n (base+1) Z=GZ at*
  generalize K3:bC n (base+1+GZ.length) O=GO at*
  have h0:=hG 0 _ rfl
  rw[Nat.add_zero]at h0
  have My:=hz (base+1) (fun i x hx=>by
   rw[GR]at hx
   have hi:=(List.getElem?_eq_some_iff.1 hx).1
   have:=hG (i+1) x (by rw[List.getElem?_cons_succ,List.getElem?_append_left hi];exact hx)
   rw[show base+1+i=base+(i+1)by omega];exact this)
  have zB:=ho (base+1+GZ.length) (fun i x hx=>by
   rw[K3]at hx
   have:=hG (i+GZ.length+1) x (by rw[List.getElem?_cons_succ,List.getElem?_append_right (by omega),Nat.add_sub_cancel];exact hx)
   rw[show base+1+GZ.length+i=base+(i+GZ.length+1)by omega];exact this)
  have FF:ix (e::r) base=(base:Int):=by simp[ix]
  rw[FF]
  simp only[walk,Int.toNat_natCast]
  rw[if_neg (by omega),h0]
  dsimp only
  by_cases hp:pre (aI e r) p=true
  ·rw[if_pos hp]
   obtain⟨s,zz⟩:=eU.1 hp
   have FG:own [(⟨aI e r,if e.k=aI e r then e.v else [],ix Z (base+1),ix O (base+1+GZ.length)⟩:Nd)]++(aD e r).filter (fun e=>pre e.k p)=(e::r).filter fun e=>pre e.k p:=by
    have DR:=hv e (List.mem_cons_self ..)
    by_cases he:e.k=aI e r
    ·have h1:aD e r=r:=by unfold aD;exact if_pos he
     rw[h1,if_pos he,List.filter_cons,he,if_pos hp,←he]
     simp[own,DR]
    ·have h1:aD e r=e::r:=by unfold aD;exact if_neg he
     rw[h1,if_neg he]
     simp[own]
   rw[show ∀ (x:Nd) (l:List Nd),x::l=[x]++l from fun _ _=>rfl,od,←FG]
   congr 1
   rw[←qs,List.filter_append]
   by_cases hl:p.length≤(aI e r).length
   ·rw[if_pos hl]
    have C_:∀ (b:Bool) (L:List En),(∀ x,x∈L→aI e r++[b]<+:x.k)→L.filter (fun e=>pre e.k p)=[]:=fun b L hL=>gR fun x hx=>by
     cases hc:pre x.k p
     ·rfl
     ·have h1:=(hL x hx).length_le
      have h2:=(eU.1 hc).length_le
      simp at h1;omega
    rw[C_ false Z GP,C_ true O aP]
    rfl
   ·rw[if_neg hl]
    have N9:aI e r++[aJ p (aI e r).length]<+:p:=by
     cases s with
     |nil=>rw[List.append_nil]at zz;rw[zz]at hl;omega
     |cons b s=>rw[←zz,iu];exact⟨s,by simp⟩
    have mK:∀ (b:Bool) (L:List En),(∀ x,x∈L→aI e r++[b]<+:x.k)→b≠aJ p (aI e r).length→L.filter (fun e=>pre e.k p)=[]:=fun b L hL hb=>gR fun x hx=>by
     cases hc:pre x.k p
     ·rfl
     ·exact absurd (B5 ((hL x hx).trans (eU.1 hc))).symm hb
    cases hb:aJ p (aI e r).length
    ·show own (walk G p m (ix Z (base+1)))=_
     rw[My,mK true O aP (by simp[hb]),List.append_nil]
    ·show own (walk G p m (ix O (base+1+GZ.length)))=_
     rw[zB,mK false Z GP (by simp[hb]),List.nil_append]
  ·rw[if_neg hp]
   have hp':pre (aI e r) p=false:=by simpa using hp
   rw[gR (l:=e::r) fun x hx=>qt (zh x hx) hp']
   rfl
theorem B6 {x y p:Bs} (hx:x<+:p) (hy:y<+:p) (h:gk x y=true):x.length<y.length:=by
 rcases Nat.lt_or_ge x.length y.length with h1 |h1
 ·exact h1
 ·have:=List.prefix_of_prefix_length_le hy hx h1
  rcases Classical.em (y=x)with rfl |hne
  ·rw[fZ]at h;cases h
  ·have h2:=xF this hne
   have:=rk h2
   rw[h]at this;cases this
theorem uQ:∀ {x y:Bs},gk x y=true→(x<+:y∧x.length<y.length)∨∃ t s u,x=t++false::s∧y=t++true::u
 |_,[],h=>by cases ‹Bs›<;>simp[gk]at h
 |[],b::y,_=> .inl ⟨List.nil_prefix,by simp⟩
 |a::x,b::y,h=>by
  have ih:= @uQ x y
  by_cases hD:a=b
  ·subst hD
   have h':gk x y=true:=by cases a<;>simpa[gk]using h
   rcases ih h' with⟨h1,h2⟩ |⟨t,s,u,rfl,rfl⟩
   ·exact .inl ⟨(List.prefix_cons_inj a).2 h1,by simpa using h2⟩
   ·exact .inr ⟨a::t,s,u,rfl,rfl⟩
  ·cases a<;>cases b<;>simp[gk]at h hD
   exact .inr ⟨[],x,y,rfl,rfl⟩
theorem sY {P:Nat→Prop}:∀ (n:Nat),P n→∃ m,m≤n∧P m∧∀ j,j<m→ ¬P j:=by
 intro n
 induction n using Nat.strongRecOn with
 |_ n ih=>
  intro h
  rcases Classical.em (∃ j,j<n∧P j)with⟨j,hj,hP⟩ |hno
  ·obtain⟨m,h1,h2,h3⟩:=ih j hj hP
   exact⟨m,by omega,h2,h3⟩
  ·exact⟨n,Nat.le_refl _,h,fun j hj hP=>hno ⟨j,hj,hP⟩⟩
theorem lm {x y:Nat} (i:Nat) (h0:x.testBit i=false) (h1:y.testBit i=true) (h:∀ j,i<j→x.testBit j=y.testBit j):x<y:=by
 have e:x/2^(i+1)=y/2^(i+1):=by
  apply Nat.eq_of_testBit_eq
  intro j
  rw[←Nat.shiftRight_eq_div_pow,←Nat.shiftRight_eq_div_pow,Nat.testBit_shiftRight,Nat.testBit_shiftRight]
  exact h _ (by omega)
 rw[Nat.testBit_eq_decide_div_mod_eq]at h0 h1
 have h0: ¬x/2^i % 2=1:=by simpa using h0
 have h1:y/2^i % 2=1:=by simpa using h1
 rw[Nat.pow_succ,←Nat.div_div_eq_div_mul,←Nat.div_div_eq_div_mul]at e
 have hlt:x/2^i<y/2^i:=by omega
 rcases Nat.lt_or_ge x y with h2 |h2
 ·exact h2
 ·have:=Nat.div_le_div_right (c:=2^i) h2
  omega
end Go.Proofs.Ytkfnkiejikhglaa.GD.Trie
namespace Go.Proofs.Ytkfnkiejikhglaa.Own
open Go Go.Proofs.Ytkfnkiejikhglaa.GD Go.Proofs.Ytkfnkiejikhglaa.GD.Trie
structure Pf where
 f:Int
 h:Nat
 l:Nat
 n:Nat
deriving Inhabited
abbrev Pf.d (p:Pf):D:=P4 p.f p.h p.l p.n
structure Pf.ok (p:Pf):Prop where
 r:fE p.h p.l
 c:co p.f p.h p.l p.n=0
theorem Pf.ok.all {p:Pf} (h:p.ok):ak p.f≠0∧bX p.f p.h p.l=true∧p.n≤ak p.f∧fD p.f p.h p.l (ak p.f - p.n)=(p.h,p.l):=by
 have:=h.c
 unfold co at this
 split at this
 ·cases this
 ·rename_i hw
  split at this
  ·rename_i hc
   exact⟨hw,hc.1,by have:=hc.2.2.1;omega,by simpa using hc.2.2.2⟩
  ·cases this
theorem Pf.ok.Da {p:Pf} (h:p.ok):(p.f=4∧ak p.f=32)∨(p.f=6∧ak p.f=128):=by
 rcases bQ p.f with h1 |h1
 ·exact absurd h1 h.all.1
 ·exact h1
def Pf.b (p:Pf) (i:Nat):Bool:=ce p.h p.l (ak p.f - 1 - i)
def Pf.bits (p:Pf):Bs:=(List.range p.n).map p.b
theorem Pf.ok.low {p:Pf} (h:p.ok) {k:Nat} (hk:k<ak p.f - p.n):ce p.h p.l k=false:=(wB h.r).1 h.all.2.2.2 k hk
theorem Pf.ok.GS {p:Pf} (h:p.ok) {i:Nat} (h1:p.n≤i) (h2:i<ak p.f):p.b i=false:=by
 unfold Pf.b
 exact h.low (by omega)
theorem Pf.len (p:Pf):p.bits.length=p.n:=by simp[Pf.bits]
theorem Pf.get (p:Pf) {i:Nat} (h:i<p.n):p.bits[i]? =some (p.b i):=by simp[Pf.bits,h]
theorem Pf.aJ (p:Pf) {i:Nat} (h:i<p.n):aJ p.bits i=p.b i:=by simp[Trie.aJ,zq1,p.get h]
theorem Pf.ok.aJ {p:Pf} (hp:p.ok) {i:Nat} (h:i<ak p.f):Trie.aJ p.bits i=p.b i:=by
 by_cases hi:i<p.n
 ·exact p.aJ hi
 ·rw[hp.GS (by omega) h]
  simp[Trie.aJ,zq1,Pf.bits,hi]
theorem bS {x:Nat} (h:x<18446744073709551616) {k:Nat} (hk:64≤k):x.testBit k=false:=
 Nat.testBit_lt_two_pow (Nat.lt_of_lt_of_le h (by have:(2:Nat)^64≤2^k:=Nat.pow_le_pow_right (by omega) hk;simpa using this))
theorem nG {h l:Nat} (ha:bX 4 h l=true):h=0∧l<4294967296:=by
 unfold bX at ha
 simpa using ha
theorem eV {x:Nat} (h:x<4294967296) {k:Nat} (hk:32≤k):x.testBit k=false:=
 Nat.testBit_lt_two_pow (Nat.lt_of_lt_of_le h (by have:(2:Nat)^32≤2^k:=Nat.pow_le_pow_right (by omega) hk;simpa using this))
theorem xJ {f:Int} {h l h' l':Nat} (r:fE h l) (r':fE h' l') (hw:ak f≠0) (a:bX f h l=true) (a':bX f h' l'=true) (he:∀ k,k<ak f→ce h l k=ce h' l' k):h=h'∧l=l':=by
 have hl:l=l':=by
  apply Nat.eq_of_testBit_eq
  intro k
  rcases bQ f with h1 |⟨rfl,h1⟩ |⟨rfl,h1⟩
  ·exact absurd h1 hw
  ·by_cases hk:k<32
   ·have:=he k (by omega)
    unfold ce at this
    rwa [if_neg (by omega),if_neg (by omega)]at this
   ·rw[eV (nG a).2 (by omega),eV (nG a').2 (by omega)]
  ·by_cases hk:k<64
   ·have:=he k (by omega)
    unfold ce at this
    rwa [if_neg (by omega),if_neg (by omega)]at this
   ·rw[bS r.l (by omega),bS r'.l (by omega)]
 refine⟨?_,hl⟩
 rcases bQ f with h1 |⟨rfl,h1⟩ |⟨rfl,h1⟩
 ·exact absurd h1 hw
 ·rw[(nG a).1,(nG a').1]
 ·apply Nat.eq_of_testBit_eq
  intro k
  by_cases hk:k<64
  ·have:=he (k+64) (by omega)
   unfold ce at this
   rw[if_pos (by omega),if_pos (by omega)]at this
   simpa using this
  ·rw[bS r.h (by omega),bS r'.h (by omega)]
def AW (h l h' l':Nat):Prop:=h<h'∨(h=h'∧l<l')
theorem B7 {f:Int} {h l h' l':Nat} (r:fE h l) (r':fE h' l') (a:bX f h l=true) (a':bX f h' l'=true) {k:Nat} (hk:k<ak f) (he:∀ j,k<j→j<ak f→ce h l j=ce h' l' j)
  (h0:ce h l k=false) (h1:ce h' l' k=true):AW h l h' l':=by
 rcases bQ f with hf |⟨rfl,hf⟩ |⟨rfl,hf⟩
 ·omega
 ·obtain⟨rfl,_⟩:=nG a
  obtain⟨rfl,_⟩:=nG a'
  refine .inr ⟨rfl,lm k ?_ ?_ ?_⟩
  ·unfold ce at h0;rwa [if_neg (by omega)]at h0
  ·unfold ce at h1;rwa [if_neg (by omega)]at h1
  ·intro j hj
   by_cases n9:j<32
   ·have:=he j hj (by omega)
    unfold ce at this
    rwa [if_neg (by omega),if_neg (by omega)]at this
   ·rw[eV (nG a).2 (by omega),eV (nG a').2 (by omega)]
 ·by_cases hk2:63<k
  ·refine .inl (lm (k - 64) ?_ ?_ ?_)
   ·unfold ce at h0;rwa [if_pos hk2]at h0
   ·unfold ce at h1;rwa [if_pos hk2]at h1
   ·intro j hj
    by_cases n9:j<64
    ·have:=he (j+64) (by omega) (by omega)
     unfold ce at this
     rw[if_pos (by omega),if_pos (by omega)]at this
     simpa using this
    ·rw[bS r.h (by omega),bS r'.h (by omega)]
  ·refine .inr ⟨?_,lm k ?_ ?_ ?_⟩
   ·apply Nat.eq_of_testBit_eq
    intro j
    by_cases hj:j<64
    ·have:=he (j+64) (by omega) (by omega)
     unfold ce at this
     rw[if_pos (by omega),if_pos (by omega)]at this
     simpa using this
    ·rw[bS r.h (by omega),bS r'.h (by omega)]
   ·unfold ce at h0;rwa [if_neg hk2]at h0
   ·unfold ce at h1;rwa [if_neg hk2]at h1
   ·intro j hj
    by_cases n9:j<64
    ·have:=he j hj (by omega)
     unfold ce at this
     rwa [if_neg (by omega),if_neg (by omega)]at this
    ·rw[bS r.l (by omega),bS r'.l (by omega)]
theorem uR {p q:Pf} (h:p.bits<+:q.bits):p.n≤q.n∧∀ i,i<p.n→p.b i=q.b i:=by
 have hl:=h.length_le
 rw[p.len,q.len]at hl
 refine⟨hl,fun i hi=> ?_⟩
 obtain⟨s,hs⟩:=h
 have h1:=p.get hi
 have h2:=q.get (show i<q.n by omega)
 rw[←hs,List.getElem?_append_left (by rw[p.len];exact hi),h1]at h2
 exact Option.some.inj h2
theorem DS {p q:Pf} (hf:p.f=q.f) {k:Nat} (hk:k<ak p.f) (h:p.b (ak p.f - 1 - k)=q.b (ak p.f - 1 - k)):ce p.h p.l k=ce q.h q.l k:=by
 unfold Pf.b at h
 rw[←hf,show ak p.f - 1 - (ak p.f - 1 - k)=k by omega]at h
 exact h
theorem pX {p q:Pf} (hp:p.ok) (hq:q.ok) (hf:p.f=q.f) (hb:p.bits=q.bits):p=q:=by
 have hn:p.n=q.n:=by rw[←p.len,←q.len,hb]
 have h1:=(uR (p:=p) (q:=q) (by rw[hb];exact List.prefix_refl _)).2
 have:=xJ hp.r hq.r hp.all.1 hp.all.2.1 (by rw[hf];exact hq.all.2.1) (fun k hk=>DS hf hk (by
  by_cases hi:ak p.f - 1 - k<p.n
  ·exact h1 _ hi
  ·rw[hp.GS (by omega) (by omega),hq.GS (by omega) (by rw[←hf];omega)]))
 obtain⟨f,h,l,n⟩:=p
 obtain⟨f',h',l',n'⟩:=q
 dsimp only at*
 rw[hf,hn,this.1,this.2]
def Pf.cut (p:Pf) (m:Nat):Pf:=⟨p.f,(fD p.f p.h p.l (ak p.f - m)).1,(fD p.f p.h p.l (ak p.f - m)).2,m⟩
theorem uS {f:Int} {h l n k:Nat}:ce (fD f h l n).1 (fD f h l n).2 k=(decide (n≤k)&&ce h l k):=by
 unfold fD ce
 by_cases hn:64≤n
 ·rw[if_pos hn]
  dsimp only
  by_cases hk:63<k
  ·rw[if_pos hk,if_pos hk,d6]
   congr 1
   apply decide_eq_decide.2;omega
  ·rw[if_neg hk,if_neg hk]
   simp
   intro h;omega
 ·rw[if_neg hn]
  dsimp only
  by_cases hk:63<k
  ·rw[if_pos hk,if_pos hk]
   have:n≤k:=by omega
   simp[this]
  ·rw[if_neg hk,if_neg hk,d6]
theorem xK {f:Int} {h l n:Nat} (r:fE h l):fE (fD f h l n).1 (fD f h l n).2:=by
 unfold fD
 split
 ·exact⟨wz r.h,by show (0:Nat)<_;omega⟩
 ·exact⟨r.h,wz r.l⟩
theorem AX {f:Int} {h l n:Nat} (a:bX f h l=true):bX f (fD f h l n).1 (fD f h l n).2=true:=by
 unfold bX at a⊢
 split
 ·rfl
 ·rename_i hf
  rw[if_neg hf]at a
  simp only[decide_eq_true_eq]at a⊢
  obtain⟨h1,rfl,h3⟩:=a
  unfold fD
  split
  ·exact⟨h1,Nat.le_zero.1 (AQ _ _),by show (0:Nat)<_;omega⟩
  ·exact⟨h1,rfl,wz h3⟩
theorem wC {p:Pf} (hr:fE p.h p.l) (hw:ak p.f≠0) (ha:bX p.f p.h p.l=true) {m:Nat} (hm:m≤ak p.f):(p.cut m).ok:=by
 have hc:fD p.f (fD p.f p.h p.l (ak p.f - m)).1 (fD p.f p.h p.l (ak p.f - m)).2 (ak p.f - m)=((fD p.f p.h p.l (ak p.f - m)).1,(fD p.f p.h p.l (ak p.f - m)).2):=by
  refine (wB (xK hr)).2 fun k hk=> ?_
  rw[uS]
  have: ¬ak p.f - m≤k:=by omega
  simp[this]
 refine⟨xK hr, ?_⟩
 unfold Pf.cut co
 dsimp only
 rw[if_neg hw,if_pos ⟨AX ha,by omega,by omega,by rw[Int.toNat_natCast];exact hc⟩]
theorem pY {p:Pf} {m:Nat} (hm:m≤p.n) (hn:p.n≤ak p.f):(p.cut m).bits=p.bits.take m:=by
 apply List.ext_getElem?
 intro i
 by_cases hi:i<m
 ·rw[(p.cut m).get (show i<(p.cut m).n from hi),List.getElem?_take_of_lt hi,p.get (by omega)]
  unfold Pf.b Pf.cut
  dsimp only
  rw[uS]
  have:ak p.f - m≤ak p.f - 1 - i:=by omega
  simp[this]
 ·rw[List.getElem?_eq_none (by rw[(p.cut m).len];show m≤i;omega),List.getElem?_eq_none (by rw[List.length_take];omega)]
def AY (p q:Pf):Int:=if p.f<q.f then -1 else if q.f<p.f then 1 else if gk p.bits q.bits=true then -1 else if gk q.bits p.bits=true then 1 else 0
theorem uT {p q:Pf} (hp:p.ok) (hq:q.ok) (hf:p.f=q.f) (h:gk p.bits q.bits=true):AW p.h p.l q.h q.l∨(p.h=q.h∧p.l=q.l∧p.n<q.n):=by
 have first:∀ i,i<ak p.f→(∀ j,j<i→p.b j=q.b j)→p.b i=false→q.b i=true→AW p.h p.l q.h q.l:=by
  intro i hi he h0 h1
  refine B7 hp.r hq.r hp.all.2.1 (by rw[hf];exact hq.all.2.1) (k:=ak p.f - 1 - i) (by omega) (fun j hj hw=>DS hf hw (he _ (by omega))) h0 ?_
  unfold Pf.b at h1;rwa [←hf]at h1
 have H9:=hp.all.2.2.1
 have N_:=hq.all.2.2.1
 rcases uQ h with⟨wD,hlen⟩ |⟨t,s,u,e1,e2⟩
 ·rw[p.len,q.len]at hlen
  have hb:=(uR wD).2
  rcases Classical.em (∃ i,i<ak p.f∧p.b i≠q.b i)with⟨i,hi⟩ |hno
  ·obtain⟨m,h1,⟨h2,H_⟩,h3⟩:=sY (P:=fun i=>i<ak p.f∧p.b i≠q.b i) i hi
   have hm:p.n≤m:=by
    rcases Nat.lt_or_ge m p.n with hlt |hge
    ·exact absurd (hb m hlt) H_
    ·exact hge
   have hz:=hp.GS hm h2
   refine .inl (first m h2 (fun j hj=>Classical.byContradiction fun hc=>h3 j hj ⟨by omega,hc⟩) hz ?_)
   cases Mz:q.b m
   ·rw[hz,Mz]at H_;exact absurd rfl H_
   ·rfl
  ·have:=xJ hp.r hq.r hp.all.1 hp.all.2.1 (by rw[hf];exact hq.all.2.1) (fun k hk=>DS hf hk (Classical.byContradiction fun hc=>hno ⟨_,by omega,hc⟩))
   exact .inr ⟨this.1,this.2,hlen⟩
 ·have l1:=p.len;have l2:=q.len
  rw[e1]at l1;rw[e2]at l2
  simp at l1 l2
  have g:∀ i,i≤t.length→p.bits[i]? =some (p.b i)∧q.bits[i]? =some (q.b i):=fun i hi=>⟨p.get (by omega),q.get (by omega)⟩
  refine .inl (first t.length (by omega) (fun j hj=> ?_) ?_ ?_)
  ·have:=g j (by omega)
   rw[e1,e2,List.getElem?_append_left hj,List.getElem?_append_left hj]at this
   exact Option.some.inj (this.1.symm.trans this.2)
  ·have:=(g t.length (Nat.le_refl _)).1
   rw[e1,List.getElem?_append_right (Nat.le_refl _),Nat.sub_self]at this
   exact (Option.some.inj this).symm
  ·have:=(g t.length (Nat.le_refl _)).2
   rw[e2,List.getElem?_append_right (Nat.le_refl _),Nat.sub_self]at this
   exact (Option.some.inj this).symm
end Go.Proofs.Ytkfnkiejikhglaa.Own
namespace Go.Proofs.Ytkfnkiejikhglaa.Own
open Go Go.Proofs.Ytkfnkiejikhglaa.GD Go.Proofs.Ytkfnkiejikhglaa.GD.Trie
def bi (b:Bool):Int:=if b=true then 1 else 0
theorem xL {x k m:Nat} (hx:x<18446744073709551616) (hk:m=k):IntKind.i64.wrap (IntKind.u64.wrap (BitVec.ofInt (IntKind.u64).bits (Int.fdiv (x:Int) (2^m))&&&BitVec.ofInt (IntKind.u64).bits 1).toNat)=bi (x.testBit k):=by
 subst hk
 have h1:Int.fdiv (x:Int) (2^m)=((x/2^m:Nat):Int):=by
  rw[Int.fdiv_eq_ediv_of_nonneg _ (Int.le_of_lt (Int.pow_pos (by omega)))]
  simp
 have h2:x/2^m<18446744073709551616:=Nat.lt_of_le_of_lt (Nat.div_le_self _ _) hx
 have h3:=oc h2 (show 1<18446744073709551616 by omega)
 rw[h1,show (1:Int)=((1:Nat):Int)from rfl,h3,Nat.and_one_is_mod,nE]
 unfold bi
 split<;>rfl
theorem B8 {f:Int} {h l:Nat} (r:fE h l) (ha:bX f h l=true) (hw:ak f≠0) (i:Nat):Cl ty tab 60 [.int .u8 f,ze h l,.int .i64 i]=some (if i<ak f then [.int .i64 (bi (ce h l (ak f - 1 - i))),.int .i64 0]else [.int .i64 0,.int .i64 2]):=by
 refine sG 0 _ _ _ _ ?_
 unfold pI
 have hw2:ak f≤128:=by rcases bQ f with h |⟨_,h⟩ |⟨_,h⟩<;>omega
 by_cases hi:i<ak f
 ·rw[if_pos hi]
  have h1: ¬(i:Int)<0:=by omega
  have h2: ¬((ak f:Nat):Int)≤(i:Int):=by omega
  by_cases hk:63<ak f - 1 - i
  ·have h3:(64:Int)≤((ak f:Nat):Int) - 1 - i:=by omega
   have h4: ¬((ak f:Nat):Int) - 1 - i - 64<0:=by omega
   have h5:min (((ak f:Nat):Int) - 1 - i - 64).toNat IntKind.u64.bits=ak f - 1 - i - 64:=by show min _ 64=_;omega
   have hb:=xL r.h h5
   unfold ce
   rw[if_pos hk]
   simp (disch:=omega) only[aA,gM,cH,ha,h1,h2,h3,h4,hb]
  ·have h3: ¬(64:Int)≤((ak f:Nat):Int) - 1 - i:=by omega
   have h4: ¬((ak f:Nat):Int) - 1 - i<0:=by omega
   have h5:min (((ak f:Nat):Int) - 1 - i).toNat IntKind.u64.bits=ak f - 1 - i:=by show min _ 64=_;omega
   have hb:=xL r.l h5
   unfold ce
   rw[if_neg hk]
   simp (disch:=omega) only[aA,gM,cH,ha,h1,h2,h3,h4,hb]
 ·rw[if_neg hi]
  have h1: ¬(i:Int)<0:=by omega
  have h2:((ak f:Nat):Int)≤(i:Int):=by omega
  simp (disch:=omega) only[aA,gM,cH,ha,h1,h2]
theorem oe {p:Pf} (hp:p.ok) (i:Nat):Cl ty tab 86 [p.d,.int .i64 i]=some [.int .i64 (bi (Trie.aJ p.bits i))]:=by
 refine wu 0 _ _ _ _ _ ?_
 unfold uF
 have hb:=B8 hp.r hp.all.2.1 hp.all.1 i
 by_cases hi:i<ak p.f
 ·rw[if_pos hi]at hb
  rw[hp.aJ hi]
  simp (disch:=omega) only[aA,hb]
  rfl
 ·rw[if_neg hi]at hb
  have:Trie.aJ p.bits i=false:=by
   have:=hp.all.2.2.1
   simp[Trie.aJ,zq1,List.getElem?_eq_none (show p.bits.length≤i by rw[p.len];omega)]
  rw[this]
  simp (disch:=omega) only[aA,hb,Int.reduceEq]
  rfl
theorem B9 {p:Pf} (hr:fE p.h p.l) (hw:ak p.f≠0) (ha:bX p.f p.h p.l=true) {m:Nat} (hm:m≤ak p.f):Cl ty tab 115 [.int .u8 p.f,ze p.h p.l,.int .i64 m]=some [(p.cut m).d,.int .i64 0]:=by
 refine sH 0 _ _ _ _ ?_
 unfold pJ
 have hf:p.f=4∨p.f=6:=by rcases bQ p.f with h |⟨h,_⟩ |⟨h,_⟩;exact absurd h hw;exact .inl h;exact .inr h
 obtain⟨mh,ml,Ia,rj,jE⟩:=sP p.f (m:Int) hf (by omega) (by omega)
 have hc:=jE p.h p.l hr ha
 have hand:=wA p.h p.l mh ml hr Ia
 have h1: ¬(m:Int)<0:=by omega
 have h2: ¬((ak p.f:Nat):Int)<(m:Int):=by omega
 rw[Int.toNat_natCast]at hc
 have e:(p.cut m).d=P4 p.f (p.h&&&mh) (p.l&&&ml) m:=by
  unfold Pf.cut Pf.d
  rw[←hc]
 rw[e]
 simp (disch:=omega) only[aA,gM,cH,ha,h1,h2,rj,hand]
theorem km {p q:Pf} (hp:p.ok) (hq:q.ok):Cl ty tab 29 [p.d,q.d]=some [.bool (decide (p.f=q.f)&&pre p.bits q.bits)]:=by
 refine nU 0 _ _ _ _ _ _ _ _ ?_
 unfold kO
 have c1:=dP p.f p.h p.l p.n hp.r
 have c2:=dP q.f q.h q.l q.n hq.r
 rw[hp.c]at c1
 rw[hq.c]at c2
 by_cases hf:p.f=q.f
 ·by_cases hn:p.n≤q.n
  ·have hw:=hp.all.1
   have MA:p.f=4∨p.f=6:=by rcases hp.Da with⟨h,_⟩ |⟨h,_⟩;exact .inl h;exact .inr h
   obtain⟨mh,ml,Ia,rj,jE⟩:=sP p.f (p.n:Int) MA (by omega) (by have:=hp.all.2.2.1;omega)
   have hc:=jE q.h q.l hq.r (by rw[hf];exact hq.all.2.1)
   rw[Int.toNat_natCast]at hc
   have hand:=wA q.h q.l mh ml hq.r Ia
   have hcb:=pY (p:=q) hn hq.all.2.2.1
   have MB:=wC (p:=q) hq.r hq.all.1 hq.all.2.1 (m:=p.n) (by have:=hq.all.2.2.1;omega)
   have h1: ¬(q.n:Int)<(p.n:Int):=by omega
   have hres:(decide (((q.h&&&mh:Nat):Int)=p.h)&&decide (((q.l&&&ml:Nat):Int)=p.l))=pre p.bits q.bits:=by
    have hx:(q.cut p.n).h=q.h&&&mh∧(q.cut p.n).l=q.l&&&ml:=by
     unfold Pf.cut
     dsimp only
     rw[←hf,←hc]
     exact⟨rfl,rfl⟩
    cases FE:pre p.bits q.bits
    ·rw[Bool.eq_false_iff]
     intro DT
     simp only[zq3,decide_eq_true_eq]at DT
     have e:q.cut p.n=p:=by
      obtain⟨e1,e2⟩:=hx
      have h3:(q.cut p.n).f=p.f:=hf.symm
      have h4:(q.cut p.n).n=p.n:=rfl
      generalize q.cut p.n=z at*
      obtain⟨f,h,l,n⟩:=z
      obtain⟨f',h',l',n'⟩:=p
      dsimp only at*
      rw[h3,h4,e1,e2,Int.ofNat_inj.1 DT.1,Int.ofNat_inj.1 DT.2]
     rw[e]at hcb
     have:pre p.bits q.bits=true:=eU.2 (by rw[hcb];exact List.take_prefix ..)
     rw[FE]at this;cases this
    ·have h3:=eU.1 FE
     rw[List.prefix_iff_eq_take,p.len,←hcb]at h3
     have e:=pX hp MB hf h3
     have e1:p.h=q.h&&&mh:=by rw[←hx.1,←e]
     have e2:p.l=q.l&&&ml:=by rw[←hx.2,←e]
     rw[←e1,←e2]
     simp
   rw[←hres]
   rw[hf]at rj c1
   simp (disch:=omega) only[aA,c1,c2,hf,h1,rj,hand]
  ·have h1:(q.n:Int)<(p.n:Int):=by omega
   have:pre p.bits q.bits=false:=by
    cases hc:pre p.bits q.bits
    ·rfl
    ·have:=(eU.1 hc).length_le
     rw[p.len,q.len]at this;omega
   rw[this]
   rw[hf]at c1
   simp (disch:=omega) only[aA,c1,c2,hf,h1]
 ·simp (disch:=omega) only[aA,c1,c2,hf]
theorem zi {x y:Bs}:∀ {i:Nat},i<(hJ x y).length→Trie.aJ x i=Trie.aJ y i:=by
 intro i hi
 obtain⟨s,hs⟩:=dg x y
 obtain⟨u,hu⟩:=jV x y
 have e1:x[i]? =(hJ x y)[i]? :=by rw[←List.getElem?_append_left hi (l₂:=s),hs]
 have e2:y[i]? =(hJ x y)[i]? :=by rw[←List.getElem?_append_left hi (l₂:=u),hu]
 unfold Trie.aJ
 rw[zq1,zq1,e1,e2]
theorem AZ {x y:Bs} (h1:(hJ x y).length<x.length) (h2:(hJ x y).length<y.length):Trie.aJ x (hJ x y).length≠Trie.aJ y (hJ x y).length:=by
 intro hc
 have p1:hJ x y++[Trie.aJ x (hJ x y).length]<+:x:=by
  obtain⟨s,hs⟩:=dg x y
  generalize hJ x y=t at*
  subst hs
  cases s with
  |nil=>simp at h1
  |cons b s=>rw[Trie.iu];exact⟨s,by simp⟩
 have p2:hJ x y++[Trie.aJ y (hJ x y).length]<+:y:=by
  obtain⟨s,hs⟩:=jV x y
  generalize hJ x y=t at*
  subst hs
  cases s with
  |nil=>simp at h2
  |cons b s=>rw[Trie.iu];exact⟨s,by simp⟩
 rw[hc]at p1
 have:=(xE p1 p2).length_le
 simp at this
 omega
theorem FH (a b:Bool):(bi a=bi b)↔a=b:=by cases a<;>cases b<;>simp[bi]
theorem A0 {p q:Pf} (hp:p.ok) (hq:q.ok) (hf:p.f=q.f):Cl ty tab 105 [p.d,q.d]=some [(p.cut (hJ p.bits q.bits).length).d]:=by
 obtain⟨k,hk⟩:=cP
 refine sI k _ _ _ _ _ _ _ _ ?_
 unfold dS
 have l1:=(dg p.bits q.bits).length_le
 have l2:=(jV p.bits q.bits).length_le
 rw[p.len]at l1
 rw[q.len]at l2
 have H9:=hp.all.2.2.1
 have hw2:ak p.f≤128:=by rcases hp.Da with⟨_,h⟩ |⟨_,h⟩<;>omega
 have key:= @AZ p.bits q.bits
 rw[p.len,q.len]at key
 have same:= @zi p.bits q.bits
 generalize hL:(hJ p.bits q.bits).length=N at*
 have jE:=fun m (hm:m≤ak p.f)=>B9 (p:=p) hp.r hp.all.1 hp.all.2.1 hm
 have tp:=oe hp
 have tq:=oe hq
 have:=cS (F:=dS.b0 (Cl ty tab) k) N (fun i=>[.int .i64 i,.pv [.int .u8 p.f,.int .u64 (p.h:Int),.int .u64 (p.l:Int),.int .i64 (p.n:Int)],.pv [.int .u8 q.f,.int .u64 (q.h:Int),.int .u64 (q.l:Int),.int .i64 (q.n:Int)],.pv [.int .u8 0,.int .u64 0,.int .u64 0,.int .i64 0]])
  (fun _=>some [(p.cut N).d]) (fun i hi again ha=> ?_) (fun again=> ?_) k (by omega) 0 (by omega)
 ·exact this
 ·unfold dS.b0
  have h1:(i:Int)<(if (q.n:Int)<(p.n:Int)then (q.n:Int)else p.n):=by split<;>omega
  have h2:=same hi
  simp (disch:=omega) only[aA,tp,tq,h1,h2,Int.natCast_add,Int.natCast_one]at ha⊢
  exact ha
 ·unfold dS.b0
  by_cases h1:(N:Int)<(if (q.n:Int)<(p.n:Int)then (q.n:Int)else p.n)
  ·have h2:N<p.n∧N<q.n:=by split at h1<;>omega
   have h3:=key h2.1 h2.2
   have h4: ¬bi (Trie.aJ p.bits N)=bi (Trie.aJ q.bits N):=by rw[FH];exact h3
   simp (disch:=omega) only[aA,tp,tq,h1,h4,jE]
  ·simp (disch:=omega) only[aA,h1,jE]
theorem wE {p q:Pf} (hp:p.ok) (hq:q.ok):(p.cut (hJ p.bits q.bits).length).ok∧(p.cut (hJ p.bits q.bits).length).bits=hJ p.bits q.bits:=by
 have l1:=(dg p.bits q.bits).length_le
 rw[p.len]at l1
 have H9:=hp.all.2.2.1
 refine⟨wC hp.r hp.all.1 hp.all.2.1 (by omega), ?_⟩
 rw[pY l1 H9]
 have:=List.prefix_iff_eq_take.1 (dg p.bits q.bits)
 exact this.symm
theorem DU (x:Int):Cl ty tab 127 [.int .u8 x]=some [.bool false]:=by
 refine nO 0 x ?_
 unfold kI
 simp
theorem A1 (x:Int):Cl ty tab 134 [.int .u64 x]=some [.bool false]:=by
 refine nP 0 x ?_
 unfold kJ
 simp
theorem DV (x:Int):Cl ty tab 107 [.int .i64 x]=some [.bool false]:=by
 refine nQ 0 x ?_
 unfold kK
 simp
def f8 (a b:Int):Int:=if a<b then -1 else if b<a then 1 else 0
theorem Ib (x y:Int):Cl ty tab 112 [.int .u8 x,.int .u8 y]=some [.int .i64 (f8 x y)]:=by
 refine mc 0 x y ?_
 unfold jg f8
 by_cases h1:x<y
 ·simp (disch:=omega) only[aA,DU,h1]
 ·by_cases h2:y<x
  ·simp (disch:=omega) only[aA,DU,h1,h2]
  ·simp (disch:=omega) only[aA,DU,h1,h2]
theorem Db (x y:Int):Cl ty tab 128 [.int .u64 x,.int .u64 y]=some [.int .i64 (f8 x y)]:=by
 refine md 0 x y ?_
 unfold jh f8
 by_cases h1:x<y
 ·simp (disch:=omega) only[aA,A1,h1]
 ·by_cases h2:y<x
  ·simp (disch:=omega) only[aA,A1,h1,h2]
  ·simp (disch:=omega) only[aA,A1,h1,h2]
theorem Ic (x y:Int):Cl ty tab 114 [.int .i64 x,.int .i64 y]=some [.int .i64 (f8 x y)]:=by
 refine mf 0 x y ?_
 unfold ji f8
 by_cases h1:x<y
 ·simp (disch:=omega) only[aA,DV,h1]
 ·by_cases h2:y<x
  ·simp (disch:=omega) only[aA,DV,h1,h2]
  ·simp (disch:=omega) only[aA,DV,h1,h2]
def nW (h l h' l':Nat):Int:=if f8 h h'≠0 then f8 h h' else f8 l l'
theorem B_ (h l h' l':Nat):Cl ty tab 113 [ze h l,ze h' l']=some [.int .i64 (nW h l h' l')]:=by
 refine m5 0 _ _ _ _ ?_
 unfold jT nW
 by_cases h1:f8 (h:Int) h'=0
 ·simp (disch:=omega) only[aA,Db,h1]
 ·simp (disch:=omega) only[aA,Db,h1]
theorem FI (a b c:Int):Cl ty tab 111 [.sl 3 false [.int .i64 a,.int .i64 b,.int .i64 c]]=some [.int .i64 (if a≠0 then a else if b≠0 then b else c)]:=by
 refine AO 5 _ _ ?_
 unfold m0
 have A2:∀ {R:Type} (k:Nat) (F:List D→(List D→Option R)→Option R) (vs:List D),iter (k+1) F vs=F vs (iter k F):=fun _ _ _=>rfl
 by_cases ha:a=0<;>by_cases hb:b=0<;>by_cases hc:c=0<;>
  simp (disch:=omega) only[aA,A2,m0.b0,ha,hb,hc,ne_eq,not_true_eq_false,not_false_eq_true,Int.reduceToNat,Int.reduceAdd,Int.reduceLT,Int.reduceLE,Int.zero_add,Int.reduceNeg,Nat.reduceAdd]<;>simp[IntKind.wrap_i64,A2,m0.b0,ha,hb,hc]
def uU (f:Int) (h l:Nat) (n:Int) (f':Int) (h' l':Nat) (n':Int):Int:=if f8 f f'≠0 then f8 f f' else if nW h l h' l'≠0 then nW h l h' l' else f8 n n'
theorem zj (f:Int) (h l:Nat) (n:Int) (f':Int) (h' l':Nat) (n':Int):Cl ty tab 103 [P4 f h l n,P4 f' h' l' n']=some [.int .i64 (uU f h l n f' h' l' n')]:=by
 refine sE 0 _ _ _ _ _ _ _ _ ?_
 unfold pF uU
 simp (disch:=omega) only[aA,Ib,B_,Ic,FI]
theorem Ca {p q:Pf} (hp:p.ok) (hq:q.ok):uU p.f p.h p.l p.n q.f q.h q.l q.n=AY p q:=by
 unfold uU
 unfold AY
 by_cases h1:p.f<q.f
 ·simp[f8,h1]
 rw[if_neg h1]
 by_cases h2:q.f<p.f
 ·simp[f8,h1,h2]
 rw[if_neg h2]
 have hf:p.f=q.f:=by omega
 have h3:f8 p.f q.f=0:=by simp[f8,hf]
 rw[h3]
 simp only[ne_eq,not_true_eq_false,if_false]
 rcases sT p.bits q.bits with h |h |h
 ·rw[if_pos h]
  rcases uT hp hq hf h with ha |⟨e1,e2,e3⟩
  ·unfold AW at ha
   have:nW p.h p.l q.h q.l= -1:=by
    unfold nW f8
    rcases ha with ha |⟨ha,hb⟩
    ·have:(p.h:Int)<q.h:=by omega
     simp[this]
    ·have:(p.l:Int)<q.l:=by omega
     simp[ha,this]
   rw[this];rfl
  ·have MC:(p.n:Int)<q.n:=by omega
   simp[nW,f8,e1,e2,MC]
 ·have:=pX hp hq hf h
  subst this
  simp[nW,f8,fZ]
 ·rw[rk h,h]
  simp only[Bool.false_eq_true,if_false,if_true]
  rcases uT hq hp hf.symm h with ha |⟨e1,e2,e3⟩
  ·unfold AW at ha
   have:nW p.h p.l q.h q.l=1:=by
    unfold nW f8
    rcases ha with ha |⟨ha,hb⟩
    ·have h5:(q.h:Int)<p.h:=by omega
     have h6: ¬(p.h:Int)<q.h:=by omega
     simp[h5,h6]
    ·have h5:(q.l:Int)<p.l:=by omega
     have h6: ¬(p.l:Int)<q.l:=by omega
     simp[ha,h5,h6]
   rw[this];rfl
  ·have h5:(q.n:Int)<p.n:=by omega
   have h6: ¬(p.n:Int)<q.n:=by omega
   simp[nW,f8,e1,e2,h5,h6]
theorem Cb {p q:Pf}:AY p q<0↔p.f<q.f∨(p.f=q.f∧gk p.bits q.bits=true):=by
 unfold AY
 by_cases h1:p.f<q.f
 ·simp[h1]
 ·by_cases h2:q.f<p.f
  ·have: ¬p.f=q.f:=by omega
   simp[h1,h2,this]
  ·have:p.f=q.f:=by omega
   cases h3:gk p.bits q.bits
   ·simp[h1,h2,h3]
    split<;>omega
   ·simp[h1,h2,h3,this]
end Go.Proofs.Ytkfnkiejikhglaa.Own
namespace Go.Proofs.Ytkfnkiejikhglaa.GD
section
open Go Go.Sort
section
variable {α:Type} (E:α→D)
def ar (d:Array α):List D:=d.toList.map E
theorem bY (d:Array α):(ar E d).length=d.size:=by simp[ar]
theorem FJ (l:List α):ar E l.toArray=l.map E:=by simp[ar]
variable [Inhabited α]
theorem aQ {d:Array α} {i:Nat} (h:i<d.size):(ar E d).getD i .undef=E d[i]! :=by
 simp[ar,zq1,h]
theorem cD (d:Array α) (i j:Nat):((ar E d).set i (E d[j]!)).set j (E d[i]!)=ar E (swp d i j):=by
 simp[ar,swp,List.map_set]
end
theorem cq {α:Type} [Inhabited α] (d:Array α) (i j:Nat):(swp d i j).size=d.size:=by simp[swp]
section
variable {α:Type} [Inhabited α] (lt:α→α→Bool)
theorem qu {a j:Nat} {d:Array α} (h:j≤a):insInner lt a j d=d:=by
 cases j with
 |zero=>rfl
 |succ j=>unfold insInner;rw[if_neg];simp;omega
theorem sZ {a j:Nat} {d:Array α} (h:a<j) (hl:lt d[j]! d[j - 1]! =true):insInner lt a j d=insInner lt a (j - 1) (swp d j (j - 1)):=by
 obtain⟨j,rfl⟩:∃ i,j=i+1:=⟨j - 1,by omega⟩
 simp only[Nat.add_sub_cancel]at hl⊢
 conv=>lhs;unfold insInner
 rw[if_pos];simp[hl];omega
theorem uV {a j:Nat} {d:Array α} (hl:lt d[j]! d[j - 1]! =false):insInner lt a j d=d:=by
 cases j with
 |zero=>rfl
 |succ j=>simp only[Nat.add_sub_cancel]at hl;unfold insInner;rw[if_neg];simp[hl]
theorem uW {a b i:Nat} {d:Array α} (h:i<b):insOuter lt a b i d=insOuter lt a b (i+1) (insInner lt a i d):=by
 conv=>lhs;unfold insOuter
 rw[if_pos h]
theorem s9 {a b i:Nat} {d:Array α} (h:b≤i):insOuter lt a b i d=d:=by
 unfold insOuter
 rw[if_neg (by omega)]
theorem nH (a:Nat):∀ (j:Nat) (d:Array α),(insInner lt a j d).size=d.size
 |0,_=>rfl
 |j+1,d=>by
  unfold insInner
  split
  ·rw[nH a j,cq]
  ·rfl
theorem iR {hi first cr:Nat} {d:Array α} (h:hi≤2*cr+1):siftDown lt hi first cr d=d:=by
 unfold siftDown;rw[dif_pos h]
def child (hi first cr:Nat) (d:Array α):Nat:=if 2*cr+1+1<hi∧lt d[first+(2*cr+1)]! d[first+(2*cr+1)+1]! =true then 2*cr+2 else 2*cr+1
theorem gT {hi first cr:Nat} {d:Array α} (h:2*cr+1<hi) (hl:lt d[first+cr]! d[first+child lt hi first cr d]! =false):siftDown lt hi first cr d=d:=by
 unfold siftDown;rw[dif_neg (by omega)]
 unfold child at hl
 by_cases c:2*cr+1+1<hi∧lt d[first+(2*cr+1)]! d[first+(2*cr+1)+1]! =true
 ·rw[if_pos c]at hl
  rw[if_pos (by simp[c.1,c.2]),if_pos (by simp[hl])]
 ·rw[if_neg c]at hl
  rw[if_neg (by simpa using c),if_pos (by simp[hl])]
theorem fF {hi first cr:Nat} {d:Array α} (h:2*cr+1<hi) (hl:lt d[first+cr]! d[first+child lt hi first cr d]! =true):
  siftDown lt hi first cr d=siftDown lt hi first (child lt hi first cr d) (swp d (first+cr) (first+child lt hi first cr d)):=by
 conv=>lhs;unfold siftDown
 rw[dif_neg (by omega)]
 unfold child at hl⊢
 by_cases c:2*cr+1+1<hi∧lt d[first+(2*cr+1)]! d[first+(2*cr+1)+1]! =true
 ·rw[if_pos c]at hl⊢
  rw[if_pos (by simp[c.1,c.2]),if_neg (by simp[hl]),dif_pos (by omega)]
 ·rw[if_neg c]at hl⊢
  rw[if_neg (by simpa using c),if_neg (by simp[hl])]
theorem rr {hi first cr:Nat} {d:Array α} (h:2*cr+1<hi):cr<child lt hi first cr d∧child lt hi first cr d<hi:=by
 unfold child;split<;>omega
theorem jY (hi first:Nat):∀ (n cr:Nat) (d:Array α),hi - cr≤n→(siftDown lt hi first cr d).size=d.size
 |0,cr,d,h=>by rw[iR];omega
 |n+1,cr,d,h=>by
  rcases Nat.lt_or_ge (2*cr+1) hi with h1 |h1
  ·cases hl:lt d[first+cr]! d[first+child lt hi first cr d]!
   ·rw[gT lt h1 hl]
   ·have:=rr lt (first:=first) (d:=d) h1
    rw[fF lt h1 hl,jY hi first n _ _ (by omega),cq]
  ·rw[iR lt h1]
theorem pZ (hi first k:Nat) (d:Array α):heapBuild lt hi first (k+1) d=heapBuild lt hi first k (siftDown lt hi first k d):=rfl
theorem s_ (first k:Nat) (d:Array α):heapPop lt first (k+1) d=heapPop lt first k (siftDown lt k first 0 (swp d first (first+k))):=rfl
theorem ln {p:α→Bool} {d:Array α} {j i:Nat} (h:i≤j) (hp:p d[i]! =true):scanUp p d j i=scanUp p d j (i+1):=by
 conv=>lhs;unfold scanUp
 rw[if_pos (by simp[h,hp])]
theorem m_ {p:α→Bool} {d:Array α} {j i:Nat} (h:p d[i]! =false):scanUp p d j i=i:=by
 unfold scanUp;rw[if_neg (by simp[h])]
theorem lp {p:α→Bool} {d:Array α} {j i:Nat} (h:j<i):scanUp p d j i=i:=by
 unfold scanUp;rw[if_neg (by simp;omega)]
theorem iS {p:α→Bool} {d:Array α} {j i:Nat} (h1:1≤j) (h:i≤j) (hp:p d[j]! =true):scanDown p d i j=scanDown p d i (j - 1):=by
 obtain⟨j,rfl⟩:∃ m,j=m+1:=⟨j - 1,by omega⟩
 conv=>lhs;unfold scanDown
 rw[if_pos (by simp[h,hp])];rfl
theorem jZ {p:α→Bool} {d:Array α} {j i:Nat} (h:p d[j]! =false):scanDown p d i j=j:=by
 cases j with
 |zero=>rfl
 |succ j=>unfold scanDown;rw[if_neg (by simp[h])]
theorem iT {p:α→Bool} {d:Array α} {j i:Nat} (h:j<i):scanDown p d i j=j:=by
 cases j with
 |zero=>rfl
 |succ j=>unfold scanDown;rw[if_neg (by simp;omega)]
theorem j4 {d:Array α} {b i:Nat} (h:i<b) (hl:lt d[i]! d[i - 1]! =false):scanSorted lt d b i=scanSorted lt d b (i+1):=by
 conv=>lhs;unfold scanSorted
 rw[if_pos (by simp[h,hl])]
theorem kQ {d:Array α} {b i:Nat} (h:lt d[i]! d[i - 1]! =true):scanSorted lt d b i=i:=by
 unfold scanSorted;rw[if_neg (by simp[h])]
theorem f9 {d:Array α} {b i:Nat} (h:b≤i):scanSorted lt d b i=i:=by
 unfold scanSorted;rw[if_neg (by simp;omega)]
theorem kR (d:Array α) (b:Nat):∀ (n i:Nat),b - i≤n→i≤b→i≤scanSorted lt d b i∧scanSorted lt d b i≤b
 |0,i,h,hi=>by rw[f9 lt (by omega)];omega
 |n+1,i,h,hi=>by
  rcases Nat.lt_or_ge i b with h1 |h1
  ·cases hl:lt d[i]! d[i - 1]!
   ·rw[j4 lt h1 hl];have:=kR d b n (i+1) (by omega) (by omega);omega
   ·rw[kQ lt hl];omega
  ·rw[f9 lt h1];omega
theorem ta {j:Nat} {d:Array α} (hl:lt d[j]! d[j - 1]! =false):shiftDown lt j d=d:=by
 cases j with
 |zero=>rfl
 |succ j=>simp only[Nat.add_sub_cancel]at hl;unfold shiftDown;rw[if_pos (by simp[hl])]
theorem qv {j:Nat} {d:Array α} (h:1≤j) (hl:lt d[j]! d[j - 1]! =true):shiftDown lt j d=shiftDown lt (j - 1) (swp d j (j - 1)):=by
 obtain⟨j,rfl⟩:∃ m,j=m+1:=⟨j - 1,by omega⟩
 simp only[Nat.add_sub_cancel]at hl⊢
 conv=>lhs;unfold shiftDown
 rw[if_neg (by simp[hl])]
theorem j5 {b j:Nat} {d:Array α} (h:b≤j):shiftUp lt b j d=d:=by
 unfold shiftUp;rw[if_neg (by omega)]
theorem p8 {b j:Nat} {d:Array α} (hl:lt d[j]! d[j - 1]! =false):shiftUp lt b j d=d:=by
 unfold shiftUp;split
 ·rw[if_pos (by simp[hl])]
 ·rfl
theorem nI {b j:Nat} {d:Array α} (h:j<b) (hl:lt d[j]! d[j - 1]! =true):shiftUp lt b j d=shiftUp lt b (j+1) (swp d j (j - 1)):=by
 conv=>lhs;unfold shiftUp
 rw[if_pos h,if_neg (by simp[hl])]
theorem mz:∀ (j:Nat) (d:Array α),(shiftDown lt j d).size=d.size
 |0,d=>rfl
 |j+1,d=>by unfold shiftDown;split;· rfl
            ·rw[mz j,cq]
theorem p9 (b:Nat):∀ (n j:Nat) (d:Array α),b - j≤n→(shiftUp lt b j d).size=d.size
 |0,j,d,h=>by rw[j5];omega
 |n+1,j,d,h=>by
  rcases Nat.lt_or_ge j b with h1 |h1
  ·cases hl:lt d[j]! d[j - 1]!
   ·rw[p8 lt hl]
   ·rw[nI lt h1 hl,p9 b n _ _ (by omega),cq]
  ·rw[j5 lt h1]
end
section
variable {α:Type} [Inhabited α]
theorem p_ {i j:Nat} {d:Array α} (h:i<j):reverseLoop i j d=reverseLoop (i+1) (j - 1) (swp d i j):=by
 conv=>lhs;unfold reverseLoop
 rw[if_pos h]
theorem nX {i j:Nat} {d:Array α} (h:j≤i):reverseLoop i j d=d:=by
 unfold reverseLoop;rw[if_neg (by omega)]
end
end
section
open Go Go.Sort
theorem wF (n:Int):IntKind.u64.wrap n=n % 18446744073709551616:=by
 simp[IntKind.wrap,IntKind.bits,IntKind.signed]
theorem qa {n:Int} (h1:0≤n) (h2:n<18446744073709551616):IntKind.u64.wrap n=n:=by
 rw[wF];exact Int.emod_eq_of_lt h1 h2
theorem tc (n:Nat) (h:n<18446744073709551616):(BitVec.ofInt IntKind.u64.bits (n:Int)).toNat=n:=by
 show (BitVec.ofInt 64 (n:Int)).toNat=n
 simp;omega
theorem Dc {a b:Nat} (ha:a<18446744073709551616) (hb:b<18446744073709551616):a^^^b<18446744073709551616:=Nat.xor_lt_two_pow (n:=64) (by simpa using ha) (by simpa using hb)
theorem DW {a b:Nat} (ha:a<18446744073709551616) (hb:b<18446744073709551616):IntKind.u64.wrap (BitVec.ofInt IntKind.u64.bits (a:Int)^^^BitVec.ofInt IntKind.u64.bits (b:Int)).toNat=((a^^^b:Nat):Int):=by
 rw[BitVec.toNat_xor,tc a ha,tc b hb]
 have:a^^^b<2^64:=Nat.xor_lt_two_pow (by simpa using ha) (by simpa using hb)
 exact qa (by omega) (by omega)
theorem Ie {a b:Nat} (ha:a<18446744073709551616) (hb:b<18446744073709551616):IntKind.u64.wrap (BitVec.ofInt IntKind.u64.bits (a:Int)&&&BitVec.ofInt IntKind.u64.bits (b:Int)).toNat=((a&&&b:Nat):Int):=by
 rw[BitVec.toNat_and,tc a ha,tc b hb]
 have:a&&&b≤b:=Nat.and_le_right
 exact qa (by omega) (by omega)
theorem rt (n:Nat) (k:Nat):((n:Int)).tdiv (k:Int)=((n/k:Nat):Int):=by
 rw[Int.tdiv_eq_ediv_of_nonneg (by omega)];rfl
theorem Dd (n:Nat) (k:Nat):Int.fdiv (n:Int) ((k:Nat):Int)=((n/k:Nat):Int):=by
 rw[Int.fdiv_eq_ediv_of_nonneg _ (by omega)];rfl
set_option maxRecDepth 20000 in
theorem ru:(⟨#[0,1,2,2,3,3,3,3,4,4,4,4,4,4,4,4,5,5,5,5,5,5,5,5,5,5,5,5,5,5,5,5,6,6,6,6,6,6,6,6,6,6,6,6,6,6,6,6,6,6,6,6,6,6,6,6,6,6,6,6,6,6,6,6,7,7,7,7,7,7,7,7,7,7,7,7,7,7,7,7,7,7,7,7,7,7,7,7,7,7,7,7,7,7,7,7,7,7,7,7,7,7,7,7,7,7,7,7,7,7,7,7,7,7,7,7,7,7,7,7,7,7,7,7,7,7,7,7,8,8,8,8,8,8,8,8,8,8,8,8,8,8,8,8,8,8,8,8,8,8,8,8,8,8,8,8,8,8,8,8,8,8,8,8,8,8,8,8,8,8,8,8,8,8,8,8,8,8,8,8,8,8,8,8,8,8,8,8,8,8,8,8,8,8,8,8,8,8,8,8,8,8,8,8,8,8,8,8,8,8,8,8,8,8,8,8,8,8,8,8,8,8,8,8,8,8,8,8,8,8,8,8,8,8,8,8,8,8,8,8,8,8,8,8,8,8,8,8,8,8,8,8,8,8,8,8]⟩:ByteArray).size=256:=by rfl
theorem FK (n:Nat) (h:n<256):(((⟨#[0,1,2,2,3,3,3,3,4,4,4,4,4,4,4,4,5,5,5,5,5,5,5,5,5,5,5,5,5,5,5,5,6,6,6,6,6,6,6,6,6,6,6,6,6,6,6,6,6,6,6,6,6,6,6,6,6,6,6,6,6,6,6,6,7,7,7,7,7,7,7,7,7,7,7,7,7,7,7,7,7,7,7,7,7,7,7,7,7,7,7,7,7,7,7,7,7,7,7,7,7,7,7,7,7,7,7,7,7,7,7,7,7,7,7,7,7,7,7,7,7,7,7,7,7,7,7,7,8,8,8,8,8,8,8,8,8,8,8,8,8,8,8,8,8,8,8,8,8,8,8,8,8,8,8,8,8,8,8,8,8,8,8,8,8,8,8,8,8,8,8,8,8,8,8,8,8,8,8,8,8,8,8,8,8,8,8,8,8,8,8,8,8,8,8,8,8,8,8,8,8,8,8,8,8,8,8,8,8,8,8,8,8,8,8,8,8,8,8,8,8,8,8,8,8,8,8,8,8,8,8,8,8,8,8,8,8,8,8,8,8,8,8,8,8,8,8,8,8,8,8,8,8,8,8,8]⟩:ByteArray).get! n).toNat:Nat)=bitsLen n:=by
 have h2:∀ n:Fin 256,((⟨#[0,1,2,2,3,3,3,3,4,4,4,4,4,4,4,4,5,5,5,5,5,5,5,5,5,5,5,5,5,5,5,5,6,6,6,6,6,6,6,6,6,6,6,6,6,6,6,6,6,6,6,6,6,6,6,6,6,6,6,6,6,6,6,6,7,7,7,7,7,7,7,7,7,7,7,7,7,7,7,7,7,7,7,7,7,7,7,7,7,7,7,7,7,7,7,7,7,7,7,7,7,7,7,7,7,7,7,7,7,7,7,7,7,7,7,7,7,7,7,7,7,7,7,7,7,7,7,7,8,8,8,8,8,8,8,8,8,8,8,8,8,8,8,8,8,8,8,8,8,8,8,8,8,8,8,8,8,8,8,8,8,8,8,8,8,8,8,8,8,8,8,8,8,8,8,8,8,8,8,8,8,8,8,8,8,8,8,8,8,8,8,8,8,8,8,8,8,8,8,8,8,8,8,8,8,8,8,8,8,8,8,8,8,8,8,8,8,8,8,8,8,8,8,8,8,8,8,8,8,8,8,8,8,8,8,8,8,8,8,8,8,8,8,8,8,8,8,8,8,8,8,8,8,8,8,8]⟩:ByteArray).get! n.1).toNat=bitsLen n.1:=by decide+kernel
 exact h2 ⟨n,h⟩
end
end Go.Proofs.Ytkfnkiejikhglaa.GD
namespace Go.Proofs.Ytkfnkiejikhglaa.Own
open Go Go.Proofs.Ytkfnkiejikhglaa.GD Go.Proofs.Ytkfnkiejikhglaa.GD.Trie Go.Sort
structure Er where
 f:Int
 h:Nat
 l:Nat
 n:Int
 nb:Bool
 vs:List Int
deriving Inhabited
abbrev iv (l:List Int):List D:=l.map (D.int .i64)
def aw (x:Er):D:= .agg [.int .u8 x.f,.int .u64 (x.h:Int),.int .u64 (x.l:Int),.int .i64 x.n,.sl 3 x.nb (iv x.vs)]
def tf (x y:Er):Int:=uU x.f x.h x.l x.n y.f y.h y.l y.n
def ax (x y:Er):Bool:=decide (tf x y<0)
theorem enc:(∀ x:Er,(aw x).cell 0= .int .u8 x.f)∧(∀ x:Er,(aw x).cell 1= .int .u64 (x.h:Int))∧(∀ x:Er,(aw x).cell 2= .int .u64 (x.l:Int))∧(∀ x:Er,(aw x).cell 3= .int .i64 x.n)∧(∀ x:Er,(aw x).cell 4= .sl 3 x.nb (iv x.vs))∧
  (∀ x:Er,D.agg [.int .u8 x.f,.int .u64 (x.h:Int),.int .u64 (x.l:Int),.int .i64 x.n,.sl 3 x.nb (iv x.vs)]=aw x)∧(∀ x y:Er,decide (tf x y<0)=ax x y):=
 ⟨fun _=>rfl,fun _=>rfl,fun _=>rfl,fun _=>rfl,fun _=>rfl,fun _=>rfl,fun _ _=>rfl⟩
theorem xM (x:Er):Cl ty tab 81 [aw x]=some [P4 x.f x.h x.l x.n]:=pG 0 _ _ _ _ _ _ rfl
theorem aT (x y:Er):Cl ty tab 102 [aw x,aw y,.rp [.fn 81 []] 0]=some [.int .i64 (tf x y)]:=by
 refine mg 0 _ _ _ _ _ _ _ _ _ _ _ _ ?_
 unfold jk
 have h1:=xM x
 have h2:=xM y
 have h3:=zj x.f x.h x.l x.n y.f y.h y.l y.n
 unfold aw at h1 h2
 unfold tf
 simp (disch:=omega) only[aA,h1,h2,h3]
theorem og {f:Int} {h l:Nat} {n:Int} {f':Int} {h' l':Nat} {n':Int}:uU f h l n f' h' l' n'<0↔f<f'∨(f=f'∧(h<h'∨(h=h'∧(l<l'∨(l=l'∧n<n'))))):=by
 unfold uU nW f8
 by_cases h1:f<f'
 ·simp[h1]
 by_cases h2:f'<f
 ·have: ¬f=f':=by omega
  simp[h1,h2,this]
 have h3:f=f':=by omega
 by_cases h4:(h:Int)<h'
 ·have:h<h':=by omega
  simp[h3,this]
 by_cases h5:(h':Int)<h
 ·have e1: ¬h<h':=by omega
  have e2: ¬h=h':=by omega
  have e3:h'<h:=by omega
  simp[h3,e1,e2,e3]
 have h6:h=h':=by omega
 by_cases h7:(l:Int)<l'
 ·have:l<l':=by omega
  simp[h3,h6,this]
 by_cases h8:(l':Int)<l
 ·have e1: ¬l<l':=by omega
  have e2: ¬l=l':=by omega
  have e3:l'<l:=by omega
  simp[h3,h6,e1,e2,e3]
 have h9:l=l':=by omega
 by_cases h10:n<n'
 ·simp[h3,h6,h9,h10]
 ·by_cases h11:n'<n
  ·simp[h3,h6,h9,h10,h11]
  ·simp[h3,h6,h9,h10,h11]
theorem oq:SWO ax where
 irrefl:=fun x=>by
  simp only[ax,tf,decide_eq_false_iff_not,og]
  omega
 trans:=fun x y z h1 h2=>by
  simp only[ax,tf,decide_eq_true_eq,og]at h1 h2⊢
  omega
 ntrans:=fun x y z h1 h2=>by
  simp only[ax,tf,decide_eq_false_iff_not,og]at h1 h2⊢
  omega
end Go.Proofs.Ytkfnkiejikhglaa.Own
namespace Go.Proofs.Ytkfnkiejikhglaa.Own
open Go Go.Proofs.Ytkfnkiejikhglaa.GD Go.Sort
section
variable (nb:Bool) {N:Nat} (hN:N<65536)
include hN
theorem A3 {K:Nat} (k:Nat) (l:List D) (hl:l.length=N) (a i:Nat) (again:List D→Option (List D)) (vs:List D) (hv:∃ w,vs= .int .i64 (i:Int)::w) (hi:i<N) (d:Array Er) (hd:d.size=N) (j:Nat) (hj:j≤i) (hk:j<k):
  iter k (aC.b1 (Cl ty tab) K l a again vs) [.int .i64 j,.ov 49 nb (ar aw d)]=again [.int .i64 ((i:Int)+1),.ov 49 nb (ar aw (insInner ax a j d))]:=by
 obtain⟨w,rfl⟩:=hv
 refine br (fun s:Nat×Array Er=>[.int .i64 s.1,.ov 49 nb (ar aw s.2)]) (fun s=>again [.int .i64 ((i:Int)+1),.ov 49 nb (ar aw (insInner ax a s.1 s.2))]) (fun s=>s.1) (fun s=>s.1≤i∧s.2.size=N) (fun s hs ag ih=> ?_) k (j,d) ⟨hj,hd⟩ hk
 obtain⟨j,d⟩:=s
 obtain⟨h1,h2⟩:=hs
 dsimp only at h1 h2 ih⊢
 unfold aC.b1
 rcases Nat.lt_or_ge a j with c |c
 ·have g1:=aQ aw (d:=d) (i:=j) (by omega)
  have g2:=aQ aw (d:=d) (i:=j - 1) (by omega)
  cases hl2:ax d[j]! d[j - 1]!
  ·rw[uV ax hl2]
   simp (disch:=omega) only[aA,enc,hl,g1,g2,aT,hl2]
  ·rw[sZ ax c hl2]
   have b6:=ih (j - 1,swp d j (j - 1)) ⟨by dsimp only;omega,by dsimp only;rw[cq];exact h2⟩ (by dsimp only;omega)
   dsimp only at b6
   rw[show ((j - 1:Nat):Int)=(j:Int) - 1 by omega]at b6
   simp (disch:=omega) only[aA,enc,hl,g1,g2,aT,hl2,cD]
   exact b6
 ·rw[qu ax c]
  simp (disch:=omega) only[aA,enc,hl]
theorem DX (d:Array Er) (hd:d.size=N) (a b:Nat) (hD:a≤b) (hb:b≤N):Cl ty tab 117 [.ov 49 nb (ar aw d),.int .i64 a,.int .i64 b,.fn 102 [.rp [.fn 81 []] 0]]=some [.ov 49 nb (ar aw (insertionSort ax d a b))]:=by
 refine e_ (N+2) nb _ _ _ ?_
 unfold aC insertionSort
 have:=br (F:=aC.b0 (Cl ty tab) (N+2) (ar aw d) a b) (fun s:Nat×Array Er=>[.int .i64 s.1,.ov 49 nb (ar aw s.2)]) (fun s=>some [.ov 49 nb (ar aw (insOuter ax a b s.1 s.2))]) (fun s=>b+1 - s.1) (fun s=>s.2.size=N∧a≤s.1∧s.1≤b+1) (fun s hs ag ih=> ?_) (N+2) (a+1,d) ⟨hd,by dsimp only;omega,by dsimp only;omega⟩ (by dsimp only;omega)
 ·dsimp only at this
  rw[show ((a+1:Nat):Int)=(a:Int)+1 by omega]at this
  simp (disch:=omega) only[aA,enc]
  exact this
 ·obtain⟨i,d'⟩:=s
  obtain⟨h1,h2,h3⟩:=hs
  dsimp only at h1 h2 h3 ih⊢
  unfold aC.b0
  rcases Nat.lt_or_ge i b with c |c
  ·rw[uW ax c]
   have b6:=ih (i+1,insInner ax a i d') ⟨by dsimp only;rw[nH];exact h1,by dsimp only;omega,by dsimp only;omega⟩ (by dsimp only;omega)
   dsimp only at b6
   rw[show ((i+1:Nat):Int)=(i:Int)+1 by omega]at b6
   have:=A3 nb hN (K:=N+2) (N+2) (ar aw d) (by rw[bY];exact hd) a i ag [.int .i64 (i:Int),.ov 49 nb (ar aw d')] ⟨_,rfl⟩ (by omega) d' h1 i (Nat.le_refl _) (by omega)
   simp (disch:=omega) only[aA,enc,this]
   exact b6
  ·rw[s9 ax c]
   simp (disch:=omega) only[aA,enc]
set_option maxHeartbeats 4000000 in
theorem xN (d:Array Er) (hd:d.size=N) (lo hi first:Nat) (h:first+hi≤N) (h2:lo≤N):Cl ty tab 129 [.ov 49 nb (ar aw d),.int .i64 lo,.int .i64 hi,.int .i64 first,.fn 102 [.rp [.fn 81 []] 0]]=some [.ov 49 nb (ar aw (siftDown ax hi first lo d))]:=by
 refine gZ (N+2) nb _ _ _ _ ?_
 unfold aF
 refine br (F:=aF.b0 (Cl ty tab) (N+2) (ar aw d) hi first) (fun s:Nat×Array Er=>[.int .i64 s.1,.ov 49 nb (ar aw s.2)]) (fun s=>some [.ov 49 nb (ar aw (siftDown ax hi first s.1 s.2))]) (fun s=>N+1 - s.1) (fun s=>s.2.size=N∧s.1≤N) (fun s hs ag ih=> ?_) (N+2) (lo,d) ⟨hd,h2⟩ (by dsimp only;omega)
 obtain⟨r,d'⟩:=s
 obtain⟨h1,h3⟩:=hs
 dsimp only at h1 h3 ih⊢
 have hl:(ar aw d).length=N:=by rw[bY];exact hd
 unfold aF.b0 aF.j0
 rcases Nat.lt_or_ge (2*r+1) hi with c |c
 ·have ES:=rr ax (first:=first) (d:=d') c
  have g0:=aQ aw (d:=d') (i:=first+r) (by omega)
  have gc:=aQ aw (d:=d') (i:=first+child ax hi first r d') (by omega)
  have e0:((first:Int)+r).toNat=first+r:=by omega
  have e1:((first:Int)+(2*(r:Int)+1)).toNat=first+(2*r+1):=by omega
  have e2:((first:Int)+(2*(r:Int)+1)+1).toNat=first+(2*r+1)+1:=by omega
  have e4:((first:Int)+(2*(r:Int)+1+1)).toNat=first+(2*r+2):=by omega
  by_cases c2:2*r+1+1<hi
  ·have g1:=aQ aw (d:=d') (i:=first+(2*r+1)) (by omega)
   have g2:=aQ aw (d:=d') (i:=first+(2*r+1)+1) (by omega)
   cases hc:ax d'[first+(2*r+1)]! d'[first+(2*r+1)+1]!
   ·have xO:child ax hi first r d'=2*r+1:=by unfold child;rw[if_neg];simp[hc]
    rw[xO]at ES gc
    cases hlt:ax d'[first+r]! d'[first+(2*r+1)]!
    ·rw[gT ax c (by rw[xO];exact hlt)]
     simp (disch:=omega) only[aA,enc,hl,g0,gc,e0,e1,e2,e4,g1,g2,aT,hc,hlt]
    ·rw[fF ax c (by rw[xO];exact hlt),xO]
     have b6:=ih (2*r+1,swp d' (first+r) (first+(2*r+1))) ⟨by dsimp only;rw[cq];exact h1,by dsimp only;omega⟩ (by dsimp only;omega)
     dsimp only at b6
     rw[show ((2*r+1:Nat):Int)=2*(r:Int)+1 by omega]at b6
     clear ih
     simp (disch:=omega) only[aA,enc,hl,g0,gc,e0,e1,e2,e4,g1,g2,aT,hc,hlt,cD]
     exact b6
   ·have xO:child ax hi first r d'=2*r+2:=by unfold child;rw[if_pos ⟨c2,hc⟩]
    rw[xO]at ES gc
    cases hlt:ax d'[first+r]! d'[first+(2*r+2)]!
    ·rw[gT ax c (by rw[xO];exact hlt)]
     simp (disch:=omega) only[aA,enc,hl,g0,gc,e0,e1,e2,e4,g1,g2,aT,hc,hlt]
    ·rw[fF ax c (by rw[xO];exact hlt),xO]
     have b6:=ih (2*r+2,swp d' (first+r) (first+(2*r+2))) ⟨by dsimp only;rw[cq];exact h1,by dsimp only;omega⟩ (by dsimp only;omega)
     dsimp only at b6
     rw[show ((2*r+2:Nat):Int)=2*(r:Int)+1+1 by omega]at b6
     clear ih
     simp (disch:=omega) only[aA,enc,hl,g0,gc,e0,e1,e2,e4,g1,g2,aT,hc,hlt,cD]
     exact b6
  ·have xO:child ax hi first r d'=2*r+1:=by unfold child;rw[if_neg (fun x=>c2 x.1)]
   rw[xO]at ES gc
   cases hlt:ax d'[first+r]! d'[first+(2*r+1)]!
   ·rw[gT ax c (by rw[xO];exact hlt)]
    simp (disch:=omega) only[aA,enc,hl,g0,gc,e0,e1,aT,hlt]
   ·rw[fF ax c (by rw[xO];exact hlt),xO]
    have b6:=ih (2*r+1,swp d' (first+r) (first+(2*r+1))) ⟨by dsimp only;rw[cq];exact h1,by dsimp only;omega⟩ (by dsimp only;omega)
    dsimp only at b6
    rw[show ((2*r+1:Nat):Int)=2*(r:Int)+1 by omega]at b6
    clear ih
    simp (disch:=omega) only[aA,enc,hl,g0,gc,e0,e1,aT,hlt,cD]
    exact b6
 ·rw[iR ax c]
  simp (disch:=omega) only[aA,enc]
end
end Go.Proofs.Ytkfnkiejikhglaa.Own
namespace Go.Proofs.Ytkfnkiejikhglaa.Own
open Go Go.Proofs.Ytkfnkiejikhglaa.GD Go.Sort
set_option maxRecDepth 20000 in
theorem xP (n:Nat) (h:n<65536):Cl ty tab 110 [.int .u64 (n:Int)]=some [.int .i64 ((bitsLen n:Nat):Int)]:=by
 refine wt 0 _ ?_
 unfold uD
 have e:Cl ty tab 126 [.int .u64 (n:Int)]=some [.int .i64 ((bitsLen n:Nat):Int)]:=by
  refine sB 0 _ ?_
  unfold bz bz.j2 bz.j1 bz.j0
  have w8:∀ m:Nat,m<256→IntKind.u8.wrap (m:Int)=(m:Int):=fun m hm=>by simp[IntKind.wrap,IntKind.bits,IntKind.signed];omega
  by_cases c:n<256
  ·have l8:bitsLen n≤8:=(bitsLen_le_iff n 8).2 (by omega)
   simp (disch:=omega) only[aA,enc,w8 n c,FK n c,ru,Int.zero_add]
  ·have e1:Int.fdiv (n:Int) (2^8)=((n/256:Nat):Int):=Dd n 256
   have c2:n/256<256:=by omega
   have e2:bitsLen n=8+bitsLen (n/256):=by
    apply Nat.le_antisymm
    ·refine (bitsLen_le_iff n _).2 ?_
     have:=lt_two_pow_bitsLen (n/256)
     rw[Nat.pow_add];omega
    ·refine Nat.le_of_not_lt fun hlt=> ?_
     have h8:8≤bitsLen n:=by
      refine Nat.le_of_not_lt fun hx=> ?_
      have:=(bitsLen_le_iff n 7).1 (by omega)
      omega
     have:=(bitsLen_le_iff (n/256) (bitsLen n - 8)).2 (by
      have:=lt_two_pow_bitsLen n
      rw[show bitsLen n=8+(bitsLen n - 8)by omega,Nat.pow_add]at this
      omega)
     omega
   have l8:bitsLen (n/256)≤8:=(bitsLen_le_iff _ 8).2 (by omega)
   have e3:((bitsLen n:Nat):Int)=8+((bitsLen (n/256):Nat):Int):=by omega
   rw[e3]
   simp (disch:=omega) only[aA,enc,e1,w8 _ c2,FK _ c2,ru,Int.zero_add]
 rw[e]
 simp (disch:=omega) only[aA,enc]
theorem Cc (n:Nat) (h:n<65536):Cl ty tab 130 [.int .i64 (n:Int)]=some [.int .u64 ((1<<<bitsLen n:Nat):Int)]:=by
 refine ir 0 _ ?_
 unfold eH
 have K5:bitsLen n≤16:=(bitsLen_le_iff n 16).2 (by omega)
 have hm:min (bitsLen n) IntKind.u64.bits=bitsLen n:=Nat.min_eq_left (by show _≤64;omega)
 have hp:2^bitsLen n≤2^16:=Nat.pow_le_pow_right (by omega) K5
 have e:(1:Int)*(2:Int)^bitsLen n=((1<<<bitsLen n:Nat):Int):=by
  rw[Nat.shiftLeft_eq];simp
 have hb:1<<<bitsLen n<18446744073709551616:=by rw[Nat.shiftLeft_eq];omega
 have hw:IntKind.u64.wrap ((1<<<bitsLen n:Nat):Int)=((1<<<bitsLen n:Nat):Int):=by
  generalize 1<<<bitsLen n=z at*
  exact qa (by omega) (by omega)
 simp (disch:=omega) only[aA,enc,qa,xP n h,hm,e,hw]
theorem DY (r:UInt64):Cl ty tab 131 [.pv [.int .u64 ((r.toNat:Nat):Int)]]=some [.int .u64 (((xorNext r).toNat:Nat):Int),.pv [.int .u64 (((xorNext r).toNat:Nat):Int)]]:=by
 refine iN 0 _ ?_
 unfold fa
 rw[xorNext_toNat]
 unfold xorNextN
 have hr:r.toNat<18446744073709551616:=r.toNat_lt
 generalize r.toNat=x at*
 have a1:IntKind.u64.wrap ((x:Int)*2^13)=((x*8192 % 18446744073709551616:Nat):Int):=by rw[wF];omega
 have h1:x^^^(x*8192 % 18446744073709551616)<18446744073709551616:=Dc (by omega) (by omega)
 simp only[a1,DW hr (show x*8192 % 18446744073709551616<18446744073709551616 by omega)]
 generalize x^^^(x*8192 % 18446744073709551616)=y at*
 have a2:Int.fdiv (y:Int) (2^7)=((y/128:Nat):Int):=Dd y 128
 have h2:y^^^(y/128)<18446744073709551616:=Dc (by omega) (by omega)
 simp only[a2,DW h1 (show y/128<18446744073709551616 by omega)]
 generalize y^^^(y/128)=z at*
 have a3:IntKind.u64.wrap ((z:Int)*2^17)=((z*131072 % 18446744073709551616:Nat):Int):=by rw[wF];omega
 simp only[a3,DW h2 (show z*131072 % 18446744073709551616<18446744073709551616 by omega)]
section
variable (nb:Bool) {N:Nat} (hN:N<65536)
include hN
theorem wG {K:Nat} (k:Nat) (l:List D) (hl:l.length=N) (first n:Nat) (hn:first+n≤N) (m:Nat) (hm:m≤n) (d:Array Er) (hd:d.size=N) (hk:m<k):
  iter k (aH.b1 (Cl ty tab) K l first) [.int .i64 ((m:Int) - 1),.ov 49 nb (ar aw d)]=some [.ov 49 nb (ar aw (heapPop ax first m d))]:=by
 refine br (R:=List D) (fun s:Nat×Array Er=>[.int .i64 ((s.1:Int) - 1),.ov 49 nb (ar aw s.2)]) (fun s=>some [.ov 49 nb (ar aw (heapPop ax first s.1 s.2))]) (fun s=>s.1) (fun s=>s.1≤n∧s.2.size=N) (fun s hs ag ih=> ?_) k (m,d) ⟨hm,hd⟩ hk
 obtain⟨m,d⟩:=s
 obtain⟨h1,h2⟩:=hs
 dsimp only at h1 h2 ih⊢
 unfold aH.b1
 cases m with
 |zero=>
  simp (disch:=omega) only[aA,enc]
  rfl
 |succ m=>
  rw[show (((m+1:Nat):Int) - 1)=(m:Int)by omega,s_]
  have g0:=aQ aw (d:=d) (i:=first) (by omega)
  have g1:=aQ aw (d:=d) (i:=first+m) (by omega)
  have e1:((first:Int)+m).toNat=first+m:=by omega
  have sz:(swp d first (first+m)).size=N:=by rw[cq];exact h2
  have hs:=xN nb hN (swp d first (first+m)) sz 0 m first (by omega) (by omega)
  rw[show ((0:Nat):Int)=0 from rfl]at hs
  have b6:=ih (m,siftDown ax m first 0 (swp d first (first+m))) ⟨by dsimp only;omega,by dsimp only;rw[jY ax _ _ _ _ _ (Nat.le_refl _)];exact sz⟩ (by dsimp only;omega)
  dsimp only at b6
  clear ih
  simp (disch:=omega) only[aA,enc,hl,g0,g1,e1,cD,hs]
  exact b6
theorem Cd (d:Array Er) (hd:d.size=N) (a b:Nat) (hD:a<b) (hb:b≤N):Cl ty tab 118 [.ov 49 nb (ar aw d),.int .i64 a,.int .i64 b,.fn 102 [.rp [.fn 81 []] 0]]=some [.ov 49 nb (ar aw (heapSort ax d a b))]:=by
 refine g7 (N+2) nb _ _ _ ?_
 unfold aH heapSort
 have hl:(ar aw d).length=N:=by rw[bY];exact hd
 have et:((b:Int) - a - 1).tdiv 2=(((b - a - 1)/2:Nat):Int):=by rw[←rt];congr 1;omega
 have:=br (F:=aH.b0 (Cl ty tab) (N+2) (ar aw d) a b) (fun s:Nat×Array Er=>[.int .i64 ((s.1:Int) - 1),.ov 49 nb (ar aw s.2)]) (fun s=>some [.ov 49 nb (ar aw (heapPop ax a (b - a) (heapBuild ax (b - a) a s.1 s.2)))]) (fun s=>s.1) (fun s=>s.1≤N∧s.2.size=N) (fun s hs ag ih=> ?_) (N+2) ((b - a - 1)/2+1,d) ⟨by dsimp only;omega,hd⟩ (by dsimp only;omega)
 ·dsimp only at this
  rw[show ((((b - a - 1)/2+1:Nat):Int) - 1)=(((b - a - 1)/2:Nat):Int)by omega]at this
  simp (disch:=omega) only[aA,enc,et]
  exact this
 ·obtain⟨m,d'⟩:=s
  obtain⟨h1,h2⟩:=hs
  dsimp only at h1 h2 ih⊢
  unfold aH.b0
  cases m with
  |zero=>
   have hp:=wG nb hN (K:=N+2) (N+2) (ar aw d) hl a (b - a) (by omega) (b - a) (Nat.le_refl _) d' h2 (by omega)
   rw[show ((b - a:Nat):Int)=(b:Int) - a by omega]at hp
   simp (disch:=omega) only[aA,enc,hp]
   rfl
  |succ m=>
   rw[show (((m+1:Nat):Int) - 1)=(m:Int)by omega,pZ]
   have hs:=xN nb hN d' h2 m (b - a) a (by omega) (by omega)
   rw[show ((b - a:Nat):Int)=(b:Int) - a by omega]at hs
   have b6:=ih (m,siftDown ax (b - a) a m d') ⟨by dsimp only;omega,by dsimp only;rw[jY ax _ _ _ _ _ (Nat.le_refl _)];exact h2⟩ (by dsimp only;omega)
   dsimp only at b6
   clear ih
   simp (disch:=omega) only[aA,enc,hs]
   exact b6
theorem DZ (d:Array Er) (hd:d.size=N) (a b:Nat) (hD:a<b) (hb:b≤N):Cl ty tab 121 [.ov 49 nb (ar aw d),.int .i64 a,.int .i64 b,.fn 102 [.rp [.fn 81 []] 0]]=some [.ov 49 nb (ar aw (reverseRange d a b))]:=by
 refine fl (N+2) nb _ _ _ ?_
 unfold aS reverseRange
 have hl:(ar aw d).length=N:=by rw[bY];exact hd
 have:=br (F:=aS.b0 (Cl ty tab) (N+2) (ar aw d)) (fun s:Nat×Nat×Array Er=>[.int .i64 s.1,.int .i64 s.2.1,.ov 49 nb (ar aw s.2.2)]) (fun s=>some [.ov 49 nb (ar aw (reverseLoop s.1 s.2.1 s.2.2))]) (fun s=>s.2.1) (fun s=>s.2.2.size=N∧s.2.1<N) (fun s hs ag ih=> ?_) (N+2) (a,b - 1,d) ⟨hd,by dsimp only;omega⟩ (by dsimp only;omega)
 ·dsimp only at this
  rw[show ((b - 1:Nat):Int)=(b:Int) - 1 by omega]at this
  simp (disch:=omega) only[aA,enc]
  exact this
 ·obtain⟨i,j,d'⟩:=s
  obtain⟨h1,h2⟩:=hs
  dsimp only at h1 h2 ih⊢
  unfold aS.b0
  rcases Nat.lt_or_ge i j with c |c
  ·rw[p_ c]
   have g0:=aQ aw (d:=d') (i:=i) (by omega)
   have g1:=aQ aw (d:=d') (i:=j) (by omega)
   have b6:=ih (i+1,j - 1,swp d' i j) ⟨by dsimp only;rw[cq];exact h1,by dsimp only;omega⟩ (by dsimp only;omega)
   dsimp only at b6
   rw[show ((j - 1:Nat):Int)=(j:Int) - 1 by omega,show ((i+1:Nat):Int)=(i:Int)+1 by omega]at b6
   clear ih
   simp (disch:=omega) only[aA,enc,hl,g0,g1,cD]
   exact b6
  ·rw[nX c]
   simp (disch:=omega) only[aA,enc]
theorem tg (d:Array Er) (hd:d.size=N) (a b s:Nat) (ha:a<N) (hb:b<N) (hs:s<1000):Cl ty tab 135 [.ov 49 nb (ar aw d),.int .i64 a,.int .i64 b,.pv [.int .i64 s],.fn 102 [.rp [.fn 81 []] 0]]=
  some [.int .i64 ((order2 ax d a b s).1:Nat),.int .i64 ((order2 ax d a b s).2.1:Nat),.ov 49 nb (ar aw d),.pv [.int .i64 ((order2 ax d a b s).2.2:Nat)]]:=by
 have _:=hN
 refine iO 0 nb _ _ _ _ ?_
 unfold fc order2
 have hl:(ar aw d).length=N:=by rw[bY];exact hd
 have g0:=aQ aw (d:=d) (i:=a) (by omega)
 have g1:=aQ aw (d:=d) (i:=b) (by omega)
 cases hc:ax d[b]! d[a]!
 ·simp (disch:=omega) only[aA,enc,hl,g0,g1,aT,hc]
 ·simp (disch:=omega) only[aA,enc,hl,g0,g1,aT,hc]
  rfl
theorem wH (d:Array Er) (hd:d.size=N) (a b c s:Nat) (ha:a<N) (hb:b<N) (hc:c<N) (hs:s<900):Cl ty tab 133 [.ov 49 nb (ar aw d),.int .i64 a,.int .i64 b,.int .i64 c,.pv [.int .i64 s],.fn 102 [.rp [.fn 81 []] 0]]=
  some [.int .i64 ((median ax d a b c s).1:Nat),.ov 49 nb (ar aw d),.pv [.int .i64 ((median ax d a b c s).2:Nat)]]:=by
 refine iP 0 nb _ _ _ _ _ ?_
 unfold fe median
 dsimp only
 have o1:=tg nb hN d hd a b s ha hb (by omega)
 have m1:=order2_mem ax d a b s
 have c1:=order2_count (lt:=ax) d a b s
 generalize order2 ax d a b s=r1 at*
 have o2:=tg nb hN d hd r1.2.1 c r1.2.2 (by omega) hc (by omega)
 have m2:=order2_mem ax d r1.2.1 c r1.2.2
 have c2:=order2_count (lt:=ax) d r1.2.1 c r1.2.2
 generalize order2 ax d r1.2.1 c r1.2.2=r2 at*
 have o3:=tg nb hN d hd r1.1 r2.1 r2.2.2 (by omega) (by omega) (by omega)
 clear m1 c1 m2 c2
 simp (disch:=omega) only[aA,enc,o1,o2,o3]
theorem th (d:Array Er) (hd:d.size=N) (a s:Nat) (h1:1≤a) (ha:a+1<N) (hs:s<900):Cl ty tab 132 [.ov 49 nb (ar aw d),.int .i64 a,.pv [.int .i64 s],.fn 102 [.rp [.fn 81 []] 0]]=
  some [.int .i64 ((medianAdjacent ax d a s).1:Nat),.ov 49 nb (ar aw d),.pv [.int .i64 ((medianAdjacent ax d a s).2:Nat)]]:=by
 refine eQ 0 nb _ _ _ ?_
 unfold cG medianAdjacent
 have o1:=wH nb hN d hd (a - 1) a (a+1) s (by omega) (by omega) (by omega) hs
 rw[show ((a - 1:Nat):Int)=(a:Int) - 1 by omega,show ((a+1:Nat):Int)=(a:Int)+1 by omega]at o1
 simp (disch:=omega) only[aA,enc,o1]
end
def nJ:Hint→Int | .unknown=>0 | .increasing=>1 | .decreasing=>2
section
variable (nb:Bool) {N:Nat} (hN:N<65536)
include hN
set_option maxHeartbeats 1000000 in
theorem D0 (d:Array Er) (hd:d.size=N) (a b:Nat) (hD:a<b) (hb:b≤N):Cl ty tab 120 [.ov 49 nb (ar aw d),.int .i64 a,.int .i64 b,.fn 102 [.rp [.fn 81 []] 0]]=
  some [.int .i64 ((choosePivot ax d a b).1:Nat),.int .i64 (nJ (choosePivot ax d a b).2),.ov 49 nb (ar aw d)]:=by
 refine fB 0 nb _ _ _ ?_
 unfold dB choosePivot
 have et:((b:Int) - a).tdiv 4=(((b - a)/4:Nat):Int):=by rw[←rt];congr 1;omega
 obtain⟨q,hq⟩:∃ q,q=(b - a)/4:=⟨_,rfl⟩
 dsimp only
 rw[←hq]at et⊢
 have e1:(a:Int)+(q:Int)*1=((a+q*1:Nat):Int):=by omega
 have e2:(a:Int)+(q:Int)*2=((a+q*2:Nat):Int):=by omega
 have e3:(a:Int)+(q:Int)*3=((a+q*3:Nat):Int):=by omega
 have yp:∀ (x c:Nat) (l:List D),(bif decide ((c:Int)=0)then some [D.int .i64 x,D.int .i64 1,D.ov 49 nb l]else bif decide ((c:Int)=12)then some [D.int .i64 x,D.int .i64 2,D.ov 49 nb l]else some [D.int .i64 x,D.int .i64 0,D.ov 49 nb l])=some [D.int .i64 x,D.int .i64 (nJ (if c=0 then Hint.increasing else if c=12 then Hint.decreasing else Hint.unknown)),D.ov 49 nb l]:=fun x c l=>by
  by_cases h0:c=0
  ·subst h0;rfl
  ·by_cases h1:c=12
   ·subst h1;rfl
   ·rw[if_neg h0,if_neg h1,cn (by omega),cn (by omega)];rfl
 by_cases h8:8≤b - a
 ·rw[if_pos h8]
  by_cases h50:50≤b - a
  ·rw[if_pos h50]
   have o1:=th nb hN d hd (a+q*1) 0 (by omega) (by omega) (by omega)
   have m1:=medianAdjacent_mem ax d (a+q*1) 0
   have c1:=medianAdjacent_count (lt:=ax) d (a+q*1) 0
   generalize medianAdjacent ax d (a+q*1) 0=r1 at*
   have o2:=th nb hN d hd (a+q*2) r1.2 (by omega) (by omega) (by omega)
   have m2:=medianAdjacent_mem ax d (a+q*2) r1.2
   have c2:=medianAdjacent_count (lt:=ax) d (a+q*2) r1.2
   generalize medianAdjacent ax d (a+q*2) r1.2=r2 at*
   have o3:=th nb hN d hd (a+q*3) r2.2 (by omega) (by omega) (by omega)
   have m3:=medianAdjacent_mem ax d (a+q*3) r2.2
   have c3:=medianAdjacent_count (lt:=ax) d (a+q*3) r2.2
   generalize medianAdjacent ax d (a+q*3) r2.2=r3 at*
   have o4:=wH nb hN d hd r1.1 r2.1 r3.1 r3.2 (by omega) (by omega) (by omega) (by omega)
   generalize median ax d r1.1 r2.1 r3.1 r3.2=r4 at*
   clear m1 c1 m2 c2 m3 c3
   rw[show ((0:Nat):Int)=0 from rfl]at o1
   simp (disch:=omega) only[aA,enc,et,e1,e2,e3,o1,o2,o3,o4,yp]
  ·rw[if_neg h50]
   have o4:=wH nb hN d hd (a+q*1) (a+q*2) (a+q*3) 0 (by omega) (by omega) (by omega) (by omega)
   generalize median ax d (a+q*1) (a+q*2) (a+q*3) 0=r4 at*
   rw[show ((0:Nat):Int)=0 from rfl]at o4
   simp (disch:=omega) only[aA,enc,et,e1,e2,e3,o4,yp]
 ·rw[if_neg h8]
  simp (disch:=omega) only[aA,enc,et,e1,e2,e3]
  rfl
end
end Go.Proofs.Ytkfnkiejikhglaa.Own
namespace Go.Proofs.Ytkfnkiejikhglaa.Own
open Go Go.Proofs.Ytkfnkiejikhglaa.GD Go.Sort
set_option maxHeartbeats 1000000
theorem Ce:ab.Fv=ab.b3:=rfl
section
variable (nb:Bool) {N:Nat} (hN:N<65536)
include hN
theorem lq {K:Nat} (l:List D) (hl:l.length=N) (a b:Nat) (hD:a+8≤b) (hb:b≤N) (idx:Nat) (h1:idx≤a+(b - a)/4*2+1) (st:UInt64×Array Er) (hd:st.2.size=N) (again:List D→Option (List D)):
  au.b0 (Cl ty tab) K l a b [.int .u64 ((1<<<bitsLen (b - a):Nat):Int)] [.int .i64 idx,.ov 49 nb (ar aw st.2),.pv [.int .u64 (st.1.toNat:Nat)]] again=
   again [.int .i64 ((idx+1:Nat):Int),.ov 49 nb (ar aw (breakStep a (b - a) (1<<<bitsLen (b - a)) st idx).2),.pv [.int .u64 ((breakStep a (b - a) (1<<<bitsLen (b - a)) st idx).1.toNat:Nat)]]:=by
 unfold au.b0 au.j0
 have et:((b:Int) - a).tdiv 4=(((b - a)/4:Nat):Int):=by rw[←rt];congr 1;omega
 have Ig:1≤1<<<bitsLen (b - a):=by rw[Nat.shiftLeft_eq];have:=Nat.two_pow_pos (bitsLen (b - a));omega
 have GU:1<<<bitsLen (b - a)≤2*(b - a):=by rw[Nat.shiftLeft_eq,Nat.one_mul];exact two_pow_bitsLen_le (by omega)
 unfold breakStep
 dsimp only
 have hr:(xorNext st.1).toNat<18446744073709551616:=(xorNext st.1).toNat_lt
 have ho:(xorNext st.1).toNat&&&(1<<<bitsLen (b - a) - 1)≤1<<<bitsLen (b - a) - 1:=Nat.and_le_right
 have hx:=DY st.1
 generalize 1<<<bitsLen (b - a)=m at*
 have hw:IntKind.u64.wrap ((m:Int) - 1)=((m - 1:Nat):Int):=by rw[qa (by omega) (by omega)];omega
 have ha:=Ie hr (show m - 1<18446744073709551616 by omega)
 generalize (xorNext st.1).toNat=r at*
 generalize r&&&(m - 1)=o at*
 have gi:=aQ aw (d:=st.2) (i:=idx) (by omega)
 rw[show ((idx+1:Nat):Int)=(idx:Int)+1 by omega]
 by_cases c:b - a≤o
 ·rw[if_pos c]
  have e1:((a:Int)+((o:Int) - ((b:Int) - a))).toNat=a+(o - (b - a)):=by omega
  have gj:=aQ aw (d:=st.2) (i:=a+(o - (b - a))) (by omega)
  simp (disch:=omega) only[aA,enc,hl,et,hx,hw,ha,gi,gj,e1,cD]
 ·rw[if_neg c]
  have e1:((a:Int)+(o:Int)).toNat=a+o:=by omega
  have gj:=aQ aw (d:=st.2) (i:=a+o) (by omega)
  simp (disch:=omega) only[aA,enc,hl,et,hx,hw,ha,gi,gj,e1,cD]
theorem D1 (d:Array Er) (hd:d.size=N) (a b:Nat) (hD:a<b) (hb:b≤N):Cl ty tab 119 [.ov 49 nb (ar aw d),.int .i64 a,.int .i64 b,.fn 102 [.rp [.fn 81 []] 0]]=some [.ov 49 nb (ar aw (breakPatterns d a b))]:=by
 refine fb 4 nb _ _ _ ?_
 unfold au breakPatterns
 have hl:(ar aw d).length=N:=by rw[bY];exact hd
 have et:((b:Int) - a).tdiv 4=(((b - a)/4:Nat):Int):=by rw[←rt];congr 1;omega
 dsimp only
 by_cases c:8≤b - a
 ·rw[if_pos c]
  have hp:=Cc (b - a) (by omega)
  rw[show ((b - a:Nat):Int)=(b:Int) - a by omega]at hp
  have hw:IntKind.u64.wrap ((b:Int) - a)=((UInt64.ofNat (b - a)).toNat:Nat):=by
   rw[qa (by omega) (by omega),UInt64.toNat_ofNat',Nat.mod_eq_of_lt (by omega)];omega
  have ei:(a:Int)+(((b - a)/4:Nat):Int)*2 - 1=((a+(b - a)/4*2 - 1:Nat):Int):=by omega
  obtain⟨i0,hi0⟩:∃ i0,i0=a+(b - a)/4*2 - 1:=⟨_,rfl⟩
  have sz:∀ (st:UInt64×Array Er) (i:Nat),(breakStep a (b - a) (1<<<bitsLen (b - a)) st i).2.size=st.2.size:=fun st i=>by unfold breakStep;rw[cq]
  have s1:=fun ag=>lq nb hN (K:=4) (ar aw d) hl a b (by omega) hb i0 (by omega) (UInt64.ofNat (b - a),d) hd ag
  have s2:=fun ag=>lq nb hN (K:=4) (ar aw d) hl a b (by omega) hb (i0+1) (by omega) (breakStep a (b - a) (1<<<bitsLen (b - a)) (UInt64.ofNat (b - a),d) i0) (by rw[sz];exact hd) ag
  have s3:=fun ag=>lq nb hN (K:=4) (ar aw d) hl a b (by omega) hb (i0+1+1) (by omega) (breakStep a (b - a) (1<<<bitsLen (b - a)) (breakStep a (b - a) (1<<<bitsLen (b - a)) (UInt64.ofNat (b - a),d) i0) (i0+1)) (by rw[sz,sz];exact hd) ag
  have s4:∀ (st:UInt64×Array Er) (ag:List D→Option (List D)),au.b0 (Cl ty tab) 4 (ar aw d) a b [.int .u64 ((1<<<bitsLen (b - a):Nat):Int)] [.int .i64 ((i0+1+1+1:Nat):Int),.ov 49 nb (ar aw st.2),.pv [.int .u64 (st.1.toNat:Nat)]] ag=some [.ov 49 nb (ar aw st.2)]:=fun st ag=>by
   unfold au.b0 au.j0
   simp (disch:=omega) only[aA,enc,et]
  simp (disch:=omega) only[aA,enc,et,ei,hp,hw]
  rw[←hi0]
  simp only[iter]
  rw[s1,s2,s3,s4]
 ·rw[if_neg c]
  simp (disch:=omega) only[aA,enc]
theorem xQ {K:Nat} (k:Nat) (l:List D) (hl:l.length=N) (b:Nat) (hb:b≤N) (i:Int) (s:Nat) (hs:s<100) (j6:List D→Option (List D)) (aj av:List D) (hv1:∃ x y,aj=x:: .int .i64 (s:Int)::y) (Cf:∃ y,av= .int .i64 i::y) (j:Nat) (hj:1≤j) (MD:j≤b) (d:Array Er) (hd:d.size=N) (hk:b<k+j):
  iter k (ab.b3 (Cl ty tab) K l b j6 aj av) [.int .i64 j,.ov 49 nb (ar aw d)]=j6 [.int .i64 i,.int .i64 ((s+1:Nat):Int),.ov 49 nb (ar aw (shiftUp ax b j d))]:=by
 obtain⟨x,y,rfl⟩:=hv1
 obtain⟨z,rfl⟩:=Cf
 refine br (R:=List D) (fun s:Nat×Array Er=>[.int .i64 s.1,.ov 49 nb (ar aw s.2)]) (fun t=>j6 [.int .i64 i,.int .i64 ((s+1:Nat):Int),.ov 49 nb (ar aw (shiftUp ax b t.1 t.2))]) (fun s=>b - s.1) (fun s=>1≤s.1∧s.1≤b∧s.2.size=N) (fun t ht ag ih=> ?_) k (j,d) ⟨hj,MD,hd⟩ (by dsimp only;omega)
 obtain⟨j,d⟩:=t
 obtain⟨h1,h2,h3⟩:=ht
 dsimp only at h1 h2 h3 ih⊢
 unfold ab.b3
 rw[show ((s+1:Nat):Int)=(s:Int)+1 by omega]
 rcases Nat.lt_or_ge j b with c |c
 ·have g1:=aQ aw (d:=d) (i:=j) (by omega)
  have g2:=aQ aw (d:=d) (i:=j - 1) (by omega)
  cases hl2:ax d[j]! d[j - 1]!
  ·rw[p8 ax hl2]
   simp (disch:=omega) only[aA,enc,hl,g1,g2,aT,hl2]
  ·rw[nI ax c hl2]
   have b6:=ih (j+1,swp d j (j - 1)) ⟨by dsimp only;omega,by dsimp only;omega,by dsimp only;rw[cq];exact h3⟩ (by dsimp only;omega)
   dsimp only at b6
   rw[show ((j+1:Nat):Int)=(j:Int)+1 by omega,show ((s+1:Nat):Int)=(s:Int)+1 by omega]at b6
   clear ih
   simp (disch:=omega) only[aA,enc,hl,g1,g2,aT,hl2,cD]
   exact b6
 ·rw[j5 ax c]
  simp (disch:=omega) only[aA,enc,hl]
theorem Cg {K:Nat} (k:Nat) (l:List D) (hl:l.length=N) (b:Nat) (hb:b≤N) (hK:N<K) (i:Nat) (hi:i<b) (s:Nat) (hs:s<100) (j6:List D→Option (List D)) (aj av:List D) (hv1:∃ x y,aj=x:: .int .i64 (s:Int)::y) (Cf:∃ y,av= .int .i64 (i:Int)::y) (j:Nat) (hj:j<N) (d:Array Er) (hd:d.size=N) (hk:j<k):
  iter k (ab.b2 (Cl ty tab) K l b j6 aj av) [.int .i64 j,.ov 49 nb (ar aw d)]=j6 [.int .i64 i,.int .i64 ((s+1:Nat):Int),.ov 49 nb (ar aw (fixUp ax b i (shiftDown ax j d)))]:=by
 obtain⟨x,y,rfl⟩:=hv1
 obtain⟨z,rfl⟩:=Cf
 refine br (R:=List D) (fun s:Nat×Array Er=>[.int .i64 s.1,.ov 49 nb (ar aw s.2)]) (fun t=>j6 [.int .i64 i,.int .i64 ((s+1:Nat):Int),.ov 49 nb (ar aw (fixUp ax b i (shiftDown ax t.1 t.2)))]) (fun s=>s.1) (fun s=>s.1<N∧s.2.size=N) (fun t ht ag ih=> ?_) k (j,d) ⟨hj,hd⟩ hk
 obtain⟨j,d⟩:=t
 obtain⟨h1,h3⟩:=ht
 dsimp only at h1 h3 ih⊢
 have D2:(bif decide ((2:Int)≤IntKind.i64.wrap ((b:Int) - i))then iter K (ab.b3 (Cl ty tab) K l b j6 (x:: .int .i64 (s:Int)::y) (.int .i64 (i:Int)::z)) [.int .i64 (IntKind.i64.wrap ((i:Int)+1)),.ov 49 nb (ar aw d)]else j6 [.int .i64 i,.int .i64 (IntKind.i64.wrap ((s:Int)+1)),.ov 49 nb (ar aw d)])=j6 [.int .i64 i,.int .i64 ((s+1:Nat):Int),.ov 49 nb (ar aw (fixUp ax b i d))]:=by
  unfold fixUp
  by_cases c:2≤b - i
  ·have hu:=xQ nb hN (K:=K) K l hl b hb i s hs j6 (x:: .int .i64 (s:Int)::y) (.int .i64 (i:Int)::z) ⟨_,_,rfl⟩ ⟨_,rfl⟩ (i+1) (by omega) (by omega) d h3 (by omega)
   rw[show ((i+1:Nat):Int)=(i:Int)+1 by omega]at hu
   rw[if_pos c]
   simp (disch:=omega) only[aA,enc,hu]
  ·rw[if_neg c,show ((s+1:Nat):Int)=(s:Int)+1 by omega]
   simp (disch:=omega) only[aA,enc]
 unfold ab.b2 ab.j0
 rcases Nat.lt_or_ge 0 j with c |c
 ·have g1:=aQ aw (d:=d) (i:=j) (by omega)
  have g2:=aQ aw (d:=d) (i:=j - 1) (by omega)
  cases hl2:ax d[j]! d[j - 1]!
  ·rw[ta ax hl2,←D2]
   simp (disch:=omega) only[aA,enc,hl,g1,g2,aT,hl2]
  ·rw[qv ax c hl2]
   have b6:=ih (j - 1,swp d j (j - 1)) ⟨by dsimp only;omega,by dsimp only;rw[cq];exact h3⟩ (by dsimp only;omega)
   dsimp only at b6
   rw[show ((j - 1:Nat):Int)=(j:Int) - 1 by omega]at b6
   clear ih D2
   rw[←b6]
   simp (disch:=omega) only[aA,enc,hl,g1,g2,aT,hl2,cD]
 ·obtain rfl:j=0:=by omega
  rw[show shiftDown ax 0 d=d from rfl,←D2]
  simp (disch:=omega) only[aA,enc,hl]
theorem A4 {K:Nat} (k:Nat) (l:List D) (hl:l.length=N) (a b:Nat) (hD:a<b) (hb:b≤N) (hK:N<K) (s:Nat) (hs:s<100) (j6:List D→Option (List D)) (aj:List D) (hv1:∃ x y,aj=x:: .int .i64 (s:Int)::y) (d:Array Er) (hd:d.size=N) (i:Nat) (hi:a<i) (Ih:i≤b) (hk:b<k+i):
  iter k (ab.b1 (Cl ty tab) K l a b j6 aj) [.int .i64 i,.ov 49 nb (ar aw d)]=
   if scanSorted ax d b i=b then some [.bool true,.ov 49 nb (ar aw d)]else if b - a<50 then some [.bool false,.ov 49 nb (ar aw d)]else
    j6 [.int .i64 (scanSorted ax d b i:Nat),.int .i64 ((s+1:Nat):Int),.ov 49 nb (ar aw (fixUp ax b (scanSorted ax d b i) (fixDown ax a (scanSorted ax d b i) (swp d (scanSorted ax d b i) (scanSorted ax d b i - 1)))))]:=by
 obtain⟨x,y,rfl⟩:=hv1
 refine br (R:=List D) (fun t:Nat=>[.int .i64 t,.ov 49 nb (ar aw d)]) (fun t=>if scanSorted ax d b t=b then some [.bool true,.ov 49 nb (ar aw d)]else if b - a<50 then some [.bool false,.ov 49 nb (ar aw d)]else
    j6 [.int .i64 (scanSorted ax d b t:Nat),.int .i64 ((s+1:Nat):Int),.ov 49 nb (ar aw (fixUp ax b (scanSorted ax d b t) (fixDown ax a (scanSorted ax d b t) (swp d (scanSorted ax d b t) (scanSorted ax d b t - 1)))))]) (fun t=>b - t) (fun t=>a<t∧t≤b) (fun i hi ag ih=> ?_) k i ⟨hi,Ih⟩ (by omega)
 obtain⟨h1,h2⟩:=hi
 unfold ab.b1 ab.j1
 rcases Nat.lt_or_ge i b with c |c
 ·have g1:=aQ aw (d:=d) (i:=i) (by omega)
  have g2:=aQ aw (d:=d) (i:=i - 1) (by omega)
  cases hl2:ax d[i]! d[i - 1]!
  ·have b6:=ih (i+1) ⟨by omega,by omega⟩ (by omega)
   rw[←j4 ax c hl2,show ((i+1:Nat):Int)=(i:Int)+1 by omega]at b6
   rw[←b6]
   clear ih b6
   simp (disch:=omega) only[aA,enc,hl,g1,g2,aT,hl2]
  ·rw[kQ ax hl2,if_neg (show¬i=b by omega)]
   clear ih
   by_cases FL:b - a<50
   ·rw[if_pos FL]
    simp (disch:=omega) only[aA,enc,hl,g1,g2,aT,hl2]
   ·rw[if_neg FL]
    have sz:(swp d i (i - 1)).size=N:=by rw[cq];exact hd
    unfold fixDown
    by_cases c2:2≤i - a
    ·have D3:=Cg nb hN (K:=K) K l hl b hb hK i c s hs j6 (x:: .int .i64 (s:Int)::y) [.int .i64 i,.ov 49 nb (ar aw d)] ⟨_,_,rfl⟩ ⟨_,rfl⟩ (i - 1) (by omega) (swp d i (i - 1)) sz (by omega)
     rw[show ((i - 1:Nat):Int)=(i:Int) - 1 by omega]at D3
     rw[if_pos c2,←D3]
     clear D3
     simp (disch:=omega) only[aA,enc,hl,g1,g2,aT,hl2,cD]
    ·rw[if_neg c2]
     unfold fixUp
     by_cases c3:2≤b - i
     ·have hu:=xQ nb hN (K:=K) K l hl b hb i s hs j6 (x:: .int .i64 (s:Int)::y) [.int .i64 i,.ov 49 nb (ar aw d)] ⟨_,_,rfl⟩ ⟨_,rfl⟩ (i+1) (by omega) (by omega) (swp d i (i - 1)) sz (by omega)
      rw[show ((i+1:Nat):Int)=(i:Int)+1 by omega]at hu
      rw[if_pos c3,←hu,←Ce]
      clear hu
      simp (disch:=omega) only[aA,enc,hl,g1,g2,aT,hl2,cD]
     ·omega
 ·obtain rfl:i=b:=by omega
  rw[f9 ax (Nat.le_refl _),if_pos rfl]
  clear ih
  simp (disch:=omega) only[aA,enc,hl]
theorem Ch (d:Array Er) (hd:d.size=N) (a b:Nat) (hD:a<b) (hb:b≤N):Cl ty tab 122 [.ov 49 nb (ar aw d),.int .i64 a,.int .i64 b,.fn 102 [.rp [.fn 81 []] 0]]=some [.bool (partialInsertionSort ax d a b).2,.ov 49 nb (ar aw (partialInsertionSort ax d a b).1)]:=by
 refine dD (N+7) nb _ _ _ ?_
 unfold ab partialInsertionSort
 have hl:(ar aw d).length=N:=by rw[bY];exact hd
 have:=br (R:=List D) (F:=ab.b0 (Cl ty tab) (N+7) (ar aw d) a b) (fun s:Nat×Nat×Array Er=>[.int .i64 s.1,.int .i64 s.2.1,.ov 49 nb (ar aw s.2.2)]) (fun s=>some [.bool (partialIns ax a b (5 - s.2.1) s.1 s.2.2).2,.ov 49 nb (ar aw (partialIns ax a b (5 - s.2.1) s.1 s.2.2).1)]) (fun s=>5 - s.2.1) (fun s=>s.2.2.size=N∧s.2.1≤5∧a<s.1∧s.1≤b) (fun s hs ag ih=> ?_) (N+7) (a+1,0,d) ⟨hd,by dsimp only;omega,by dsimp only;omega,by dsimp only;omega⟩ (by dsimp only;omega)
 ·dsimp only at this
  rw[show ((a+1:Nat):Int)=(a:Int)+1 by omega]at this
  simp (disch:=omega) only[aA,enc]
  exact this
 ·obtain⟨i,s,d'⟩:=s
  obtain⟨h1,h2,h3,h4⟩:=hs
  dsimp only at h1 h2 h3 h4 ih⊢
  unfold ab.b0
  by_cases c:s<5
  ·have hp:=A4 nb hN (K:=N+7) (N+7) (ar aw d) hl a b hD hb (by omega) s (by omega) ag [.int .i64 i,.int .i64 s,.ov 49 nb (ar aw d')] ⟨_,_,rfl⟩ d' h1 i h3 h4 (by omega)
   rw[show 5 - s=(5 - (s+1))+1 by omega,partialIns_succ]
   have hle:=kR ax d' b _ i (Nat.le_refl _) h4
   generalize scanSorted ax d' b i=i2 at*
   by_cases cb:i2=b
   ·rw[if_pos cb]at hp⊢
    simp (disch:=omega) only[aA,enc,hp]
   ·rw[if_neg cb]at hp⊢
    by_cases FL:b - a<50
    ·rw[if_pos FL]at hp⊢
     simp (disch:=omega) only[aA,enc,hp]
    ·rw[if_neg FL]at hp⊢
     have b6:=ih (i2,s+1,fixUp ax b i2 (fixDown ax a i2 (swp d' i2 (i2 - 1)))) ⟨by
         dsimp only
         unfold fixUp fixDown
         split<;>split<;>simp only[p9 ax _ _ _ _ (Nat.le_refl _),mz,cq,h1],by dsimp only;omega,by dsimp only;omega,by dsimp only;omega⟩ (by dsimp only;omega)
     dsimp only at b6
     rw[b6]at hp
     clear ih b6
     simp (disch:=omega) only[aA,enc,hp]
  ·obtain rfl:s=5:=by omega
   clear ih
   simp (disch:=omega) only[aA,enc]
   rfl
end
end Go.Proofs.Ytkfnkiejikhglaa.Own
namespace Go.Proofs.Ytkfnkiejikhglaa.Own
open Go Go.Proofs.Ytkfnkiejikhglaa.GD Go.Sort
set_option maxHeartbeats 1000000
section
variable (nb:Bool) {N:Nat} (hN:N<65536)
include hN
theorem A5 {K:Nat} (k:Nat) (l:List D) (hl:l.length=N) (a i:Nat) (ha:a<i) (hi:i≤N) (j6:List D→Option (List D)) (av:List D) (Cf:∃ y,av= .int .i64 (i:Int)::y) (d:Array Er) (hd:d.size=N) (j:Nat) (hj:j<N) (hij:i≤j+2) (hk:j<k):
  iter k (ah.b2 (Cl ty tab) K l a j6 av) [.int .i64 j,.ov 49 nb (ar aw d)]=
   if i>scanDown (fun x=>ax d[a]! x) d i j then some [.int .i64 i,.ov 49 nb (ar aw d)]else
    j6 [.int .i64 ((i+1:Nat):Int),.int .i64 ((scanDown (fun x=>ax d[a]! x) d i j - 1:Nat):Int),.ov 49 nb (ar aw (swp d i (scanDown (fun x=>ax d[a]! x) d i j)))]:=by
 obtain⟨z,rfl⟩:=Cf
 refine br (R:=List D) (fun t:Nat=>[.int .i64 t,.ov 49 nb (ar aw d)]) (fun t=>if i>scanDown (fun x=>ax d[a]! x) d i t then some [.int .i64 i,.ov 49 nb (ar aw d)]else
    j6 [.int .i64 ((i+1:Nat):Int),.int .i64 ((scanDown (fun x=>ax d[a]! x) d i t - 1:Nat):Int),.ov 49 nb (ar aw (swp d i (scanDown (fun x=>ax d[a]! x) d i t)))]) (fun t=>t) (fun t=>t<N∧i≤t+2) (fun j hj ag ih=> ?_) k j ⟨hj,hij⟩ hk
 obtain⟨h1,h2⟩:=hj
 unfold ah.b2 ah.j0
 rcases Nat.lt_or_ge j i with c |c
 ·rw[iT c,if_pos c]
  clear ih
  simp (disch:=omega) only[aA,enc,hl]
 ·have g1:=aQ aw (d:=d) (i:=a) (by omega)
  have g2:=aQ aw (d:=d) (i:=j) (by omega)
  have g3:=aQ aw (d:=d) (i:=i) (by omega)
  cases hp:ax d[a]! d[j]!
  ·rw[jZ (p:=fun x=>ax d[a]! x) hp,if_neg (show¬i>j by omega)]
   clear ih
   rw[show ((i+1:Nat):Int)=(i:Int)+1 by omega,show ((j - 1:Nat):Int)=(j:Int) - 1 by omega]
   simp (disch:=omega) only[aA,enc,hl,g1,g2,g3,aT,hp,cD]
  ·have b6:=ih (j - 1) ⟨by omega,by omega⟩ (by omega)
   rw[←iS (p:=fun x=>ax d[a]! x) (by omega) c hp,show (((j - 1:Nat):Nat):Int)=(j:Int) - 1 by omega]at b6
   rw[←b6]
   clear ih b6
   simp (disch:=omega) only[aA,enc,hl,g1,g2,g3,aT,hp]
theorem A6 {K:Nat} (hK:N<K) (k:Nat) (l:List D) (hl:l.length=N) (a j:Nat) (hj:j<N) (j6:List D→Option (List D)) (aj:List D) (hv1:∃ x y,aj=x:: .int .i64 (j:Int)::y) (d:Array Er) (hd:d.size=N) (i:Nat) (hi:a<i) (hij:i≤j+2) (FM:i≤N) (hk:j+1 - i<k):
  iter k (ah.b1 (Cl ty tab) K l a j6 aj) [.int .i64 i,.ov 49 nb (ar aw d)]=
   if scanUp (fun x=> !ax d[a]! x) d j i>scanDown (fun x=>ax d[a]! x) d (scanUp (fun x=> !ax d[a]! x) d j i) j then some [.int .i64 (scanUp (fun x=> !ax d[a]! x) d j i:Nat),.ov 49 nb (ar aw d)]else
    j6 [.int .i64 ((scanUp (fun x=> !ax d[a]! x) d j i+1:Nat):Int),.int .i64 ((scanDown (fun x=>ax d[a]! x) d (scanUp (fun x=> !ax d[a]! x) d j i) j - 1:Nat):Int),.ov 49 nb (ar aw (swp d (scanUp (fun x=> !ax d[a]! x) d j i) (scanDown (fun x=>ax d[a]! x) d (scanUp (fun x=> !ax d[a]! x) d j i) j)))]:=by
 obtain⟨x,y,rfl⟩:=hv1
 refine br (R:=List D) (fun t:Nat=>[.int .i64 t,.ov 49 nb (ar aw d)]) (fun i=>if scanUp (fun x=> !ax d[a]! x) d j i>scanDown (fun x=>ax d[a]! x) d (scanUp (fun x=> !ax d[a]! x) d j i) j then some [.int .i64 (scanUp (fun x=> !ax d[a]! x) d j i:Nat),.ov 49 nb (ar aw d)]else
    j6 [.int .i64 ((scanUp (fun x=> !ax d[a]! x) d j i+1:Nat):Int),.int .i64 ((scanDown (fun x=>ax d[a]! x) d (scanUp (fun x=> !ax d[a]! x) d j i) j - 1:Nat):Int),.ov 49 nb (ar aw (swp d (scanUp (fun x=> !ax d[a]! x) d j i) (scanDown (fun x=>ax d[a]! x) d (scanUp (fun x=> !ax d[a]! x) d j i) j)))]) (fun t=>j+1 - t) (fun t=>a<t∧t≤j+2∧t≤N) (fun i hi ag ih=> ?_) k i ⟨hi,hij,FM⟩ (by omega)
 obtain⟨h1,h2,h3⟩:=hi
 have dn:=A5 nb hN (K:=K) K l hl a i h1 (by omega) j6 [.int .i64 (i:Int),.ov 49 nb (ar aw d)] ⟨_,rfl⟩ d hd j hj h2 (by omega)
 unfold ah.b1 ah.j1
 rcases Nat.lt_or_ge j i with c |c
 ·rw[lp c,←dn]
  clear ih dn
  simp (disch:=omega) only[aA,enc,hl]
 ·have g1:=aQ aw (d:=d) (i:=a) (by omega)
  have g2:=aQ aw (d:=d) (i:=i) (by omega)
  cases hp:ax d[a]! d[i]!
  ·have b6:=ih (i+1) ⟨by omega,by omega,by omega⟩ (by omega)
   rw[←ln (p:=fun x=> !ax d[a]! x) c (by simp[hp]),show ((i+1:Nat):Int)=(i:Int)+1 by omega]at b6
   rw[←b6]
   clear ih b6 dn
   simp (disch:=omega) only[aA,enc,hl,g1,g2,aT,hp]
  ·rw[m_ (p:=fun x=> !ax d[a]! x) (by simp[hp]),←dn]
   clear ih dn
   simp (disch:=omega) only[aA,enc,hl,g1,g2,aT,hp]
theorem D4 (d:Array Er) (hd:d.size=N) (a b p:Nat) (hD:a<b) (hb:b≤N) (CO:a≤p) (vG:p<b):Cl ty tab 123 [.ov 49 nb (ar aw d),.int .i64 a,.int .i64 b,.int .i64 p,.fn 102 [.rp [.fn 81 []] 0]]=some [.int .i64 ((partitionEqual ax d a b p).1:Nat),.ov 49 nb (ar aw (partitionEqual ax d a b p).2)]:=by
 refine eR (N+2) nb _ _ _ _ ?_
 unfold ah partitionEqual
 have hl:(ar aw d).length=N:=by rw[bY];exact hd
 have g1:=aQ aw (d:=d) (i:=a) (by omega)
 have g2:=aQ aw (d:=d) (i:=p) (by omega)
 have:=br (R:=List D) (F:=ah.b0 (Cl ty tab) (N+2) (ar aw d) a) (fun s:Nat×Nat×Array Er=>[.int .i64 s.1,.int .i64 s.2.1,.ov 49 nb (ar aw s.2.2)]) (fun s=>some [.int .i64 ((partEqLoop ax a s.1 s.2.1 s.2.2).1:Nat),.ov 49 nb (ar aw (partEqLoop ax a s.1 s.2.1 s.2.2).2)]) (fun s=>s.2.1+1 - s.1) (fun s=>s.2.2.size=N∧a<s.1∧s.1≤s.2.1+2∧s.1≤N∧s.2.1<N) (fun s hs ag ih=> ?_) (N+2) (a+1,b - 1,swp d a p) ⟨by dsimp only;rw[cq];exact hd,by dsimp only;omega,by dsimp only;omega,by dsimp only;omega,by dsimp only;omega⟩ (by dsimp only;omega)
 ·dsimp only at this
  rw[show ((a+1:Nat):Int)=(a:Int)+1 by omega,show ((b - 1:Nat):Int)=(b:Int) - 1 by omega]at this
  simp (disch:=omega) only[aA,enc,hl,g1,g2,cD]
  exact this
 ·obtain⟨i,j,d'⟩:=s
  obtain⟨h1,h2,h3,h5,h4⟩:=hs
  dsimp only at h1 h2 h3 h5 h4 ih⊢
  unfold ah.b0
  have up:=A6 nb hN (K:=N+2) (by omega) (N+2) (ar aw d) hl a j h4 ag [.int .i64 i,.int .i64 j,.ov 49 nb (ar aw d')] ⟨_,_,rfl⟩ d' h1 i h2 h3 h5 (by omega)
  rw[partEqLoop_eq]
  have s1:=scanUp_spec (fun x=> !ax d'[a]! x) d' j _ i rfl
  have s2:=scanDown_le (fun x=>ax d'[a]! x) d' (scanUp (fun x=> !ax d'[a]! x) d' j i) j
  have s3:=scanUp_ge (fun x=> !ax d'[a]! x) d' j i
  generalize scanUp (fun x=> !ax d'[a]! x) d' j i=i2 at*
  generalize scanDown (fun x=>ax d'[a]! x) d' i2 j=j2 at*
  by_cases c:i2>j2
  ·rw[if_pos c]at up⊢
   clear ih
   simp (disch:=omega) only[aA,enc,up]
  ·rw[if_neg c]at up⊢
   rw[ih (i2+1,j2 - 1,swp d' i2 j2) ⟨by dsimp only;rw[cq];exact h1,by dsimp only;omega,by dsimp only;omega,by dsimp only;omega,by dsimp only;omega⟩ (by dsimp only;omega)]at up
   clear ih
   simp (disch:=omega) only[aA,enc,up]
theorem A7 {K:Nat} (k:Nat) (l:List D) (hl:l.length=N) (a i:Nat) (ha:a<i) (hi:i≤N) (j6:List D→Option (List D)) (av:List D) (Cf:∃ y,av= .int .i64 (i:Int)::y) (d:Array Er) (hd:d.size=N) (j:Nat) (hj:j<N) (hij:i≤j+2) (hk:j<k):
  iter k (ac.b4 (Cl ty tab) K l a j6 av) [.int .i64 j,.ov 49 nb (ar aw d)]=
   if i>scanDown (fun x=> !ax x d[a]!) d i j then some [.int .i64 (scanDown (fun x=> !ax x d[a]!) d i j:Nat),.bool false,.ov 49 nb (ar aw (swp d (scanDown (fun x=> !ax x d[a]!) d i j) a))]else
    j6 [.int .i64 ((i+1:Nat):Int),.int .i64 ((scanDown (fun x=> !ax x d[a]!) d i j - 1:Nat):Int),.ov 49 nb (ar aw (swp d i (scanDown (fun x=> !ax x d[a]!) d i j)))]:=by
 obtain⟨z,rfl⟩:=Cf
 refine br (R:=List D) (fun t:Nat=>[.int .i64 t,.ov 49 nb (ar aw d)]) (fun t=>if i>scanDown (fun x=> !ax x d[a]!) d i t then some [.int .i64 (scanDown (fun x=> !ax x d[a]!) d i t:Nat),.bool false,.ov 49 nb (ar aw (swp d (scanDown (fun x=> !ax x d[a]!) d i t) a))]else
    j6 [.int .i64 ((i+1:Nat):Int),.int .i64 ((scanDown (fun x=> !ax x d[a]!) d i t - 1:Nat):Int),.ov 49 nb (ar aw (swp d i (scanDown (fun x=> !ax x d[a]!) d i t)))]) (fun t=>t) (fun t=>t<N∧i≤t+2) (fun j hj ag ih=> ?_) k j ⟨hj,hij⟩ hk
 obtain⟨h1,h2⟩:=hj
 have g1:=aQ aw (d:=d) (i:=a) (by omega)
 have g2:=aQ aw (d:=d) (i:=j) (by omega)
 unfold ac.b4 ac.j0
 rcases Nat.lt_or_ge j i with c |c
 ·rw[iT c,if_pos c]
  clear ih
  simp (disch:=omega) only[aA,enc,hl,g1,g2,cD]
 ·have g3:=aQ aw (d:=d) (i:=i) (by omega)
  cases hp:ax d[j]! d[a]!
  ·have b6:=ih (j - 1) ⟨by omega,by omega⟩ (by omega)
   rw[←iS (p:=fun x=> !ax x d[a]!) (by omega) c (by simp[hp]),show (((j - 1:Nat):Nat):Int)=(j:Int) - 1 by omega]at b6
   rw[←b6]
   clear ih b6
   simp (disch:=omega) only[aA,enc,hl,g1,g2,g3,aT,hp]
  ·rw[jZ (p:=fun x=> !ax x d[a]!) (by simp[hp]),if_neg (show¬i>j by omega)]
   clear ih
   rw[show ((i+1:Nat):Int)=(i:Int)+1 by omega,show ((j - 1:Nat):Int)=(j:Int) - 1 by omega]
   simp (disch:=omega) only[aA,enc,hl,g1,g2,g3,aT,hp,cD]
theorem A8 {K:Nat} (hK:N<K) (k:Nat) (l:List D) (hl:l.length=N) (a j:Nat) (hj:j<N) (j6:List D→Option (List D)) (aj:List D) (hv1:∃ x y,aj=x:: .int .i64 (j:Int)::y) (d:Array Er) (hd:d.size=N) (i:Nat) (hi:a<i) (hij:i≤j+2) (FM:i≤N) (hk:j+1 - i<k):
  iter k (ac.b3 (Cl ty tab) K l a j6 aj) [.int .i64 i,.ov 49 nb (ar aw d)]=
   if scanUp (fun x=>ax x d[a]!) d j i>scanDown (fun x=> !ax x d[a]!) d (scanUp (fun x=>ax x d[a]!) d j i) j then some [.int .i64 (scanDown (fun x=> !ax x d[a]!) d (scanUp (fun x=>ax x d[a]!) d j i) j:Nat),.bool false,.ov 49 nb (ar aw (swp d (scanDown (fun x=> !ax x d[a]!) d (scanUp (fun x=>ax x d[a]!) d j i) j) a))]else
    j6 [.int .i64 ((scanUp (fun x=>ax x d[a]!) d j i+1:Nat):Int),.int .i64 ((scanDown (fun x=> !ax x d[a]!) d (scanUp (fun x=>ax x d[a]!) d j i) j - 1:Nat):Int),.ov 49 nb (ar aw (swp d (scanUp (fun x=>ax x d[a]!) d j i) (scanDown (fun x=> !ax x d[a]!) d (scanUp (fun x=>ax x d[a]!) d j i) j)))]:=by
 obtain⟨x,y,rfl⟩:=hv1
 refine br (R:=List D) (fun t:Nat=>[.int .i64 t,.ov 49 nb (ar aw d)]) (fun i=>if scanUp (fun x=>ax x d[a]!) d j i>scanDown (fun x=> !ax x d[a]!) d (scanUp (fun x=>ax x d[a]!) d j i) j then some [.int .i64 (scanDown (fun x=> !ax x d[a]!) d (scanUp (fun x=>ax x d[a]!) d j i) j:Nat),.bool false,.ov 49 nb (ar aw (swp d (scanDown (fun x=> !ax x d[a]!) d (scanUp (fun x=>ax x d[a]!) d j i) j) a))]else
    j6 [.int .i64 ((scanUp (fun x=>ax x d[a]!) d j i+1:Nat):Int),.int .i64 ((scanDown (fun x=> !ax x d[a]!) d (scanUp (fun x=>ax x d[a]!) d j i) j - 1:Nat):Int),.ov 49 nb (ar aw (swp d (scanUp (fun x=>ax x d[a]!) d j i) (scanDown (fun x=> !ax x d[a]!) d (scanUp (fun x=>ax x d[a]!) d j i) j)))]) (fun t=>j+1 - t) (fun t=>a<t∧t≤j+2∧t≤N) (fun i hi ag ih=> ?_) k i ⟨hi,hij,FM⟩ (by omega)
 obtain⟨h1,h2,h3⟩:=hi
 have dn:=A7 nb hN (K:=K) K l hl a i h1 (by omega) j6 [.int .i64 (i:Int),.ov 49 nb (ar aw d)] ⟨_,rfl⟩ d hd j hj h2 (by omega)
 unfold ac.b3 ac.j1
 rcases Nat.lt_or_ge j i with c |c
 ·rw[lp c,←dn]
  clear ih dn
  simp (disch:=omega) only[aA,enc,hl]
 ·have g1:=aQ aw (d:=d) (i:=a) (by omega)
  have g2:=aQ aw (d:=d) (i:=i) (by omega)
  cases hp:ax d[i]! d[a]!
  ·rw[m_ (p:=fun x=>ax x d[a]!) hp,←dn]
   clear ih dn
   simp (disch:=omega) only[aA,enc,hl,g1,g2,aT,hp]
  ·have b6:=ih (i+1) ⟨by omega,by omega,by omega⟩ (by omega)
   rw[←ln (p:=fun x=>ax x d[a]!) c hp,show ((i+1:Nat):Int)=(i:Int)+1 by omega]at b6
   rw[←b6]
   clear ih b6 dn
   simp (disch:=omega) only[aA,enc,hl,g1,g2,aT,hp]
theorem wI (l:List D) (hl:l.length=N) (a:Nat) (i j:Nat) (hi:a<i) (hij:i≤j+2) (FM:i≤N) (hj:j<N) (d:Array Er) (hd:d.size=N):
  iter (N+2) (ac.b2 (Cl ty tab) (N+2) l a) [.int .i64 i,.int .i64 j,.ov 49 nb (ar aw d)]=some [.int .i64 ((partLoop ax a i j d).1:Nat),.bool false,.ov 49 nb (ar aw (swp (partLoop ax a i j d).2 (partLoop ax a i j d).1 a))]:=by
 refine br (R:=List D) (fun s:Nat×Nat×Array Er=>[.int .i64 s.1,.int .i64 s.2.1,.ov 49 nb (ar aw s.2.2)]) (fun s=>some [.int .i64 ((partLoop ax a s.1 s.2.1 s.2.2).1:Nat),.bool false,.ov 49 nb (ar aw (swp (partLoop ax a s.1 s.2.1 s.2.2).2 (partLoop ax a s.1 s.2.1 s.2.2).1 a))]) (fun s=>s.2.1+1 - s.1) (fun s=>s.2.2.size=N∧a<s.1∧s.1≤s.2.1+2∧s.1≤N∧s.2.1<N) (fun s hs ag ih=> ?_) (N+2) (i,j,d) ⟨hd,hi,hij,FM,hj⟩ (by dsimp only;omega)
 obtain⟨i,j,d'⟩:=s
 obtain⟨h1,h2,h3,h5,h4⟩:=hs
 dsimp only at h1 h2 h3 h5 h4 ih⊢
 unfold ac.b2
 have up:=A8 nb hN (K:=N+2) (by omega) (N+2) l hl a j h4 ag [.int .i64 i,.int .i64 j,.ov 49 nb (ar aw d')] ⟨_,_,rfl⟩ d' h1 i h2 h3 h5 (by omega)
 rw[partLoop_eq]
 have s1:=scanUp_spec (fun x=>ax x d'[a]!) d' j _ i rfl
 have s2:=scanDown_le (fun x=> !ax x d'[a]!) d' (scanUp (fun x=>ax x d'[a]!) d' j i) j
 have s3:=scanUp_ge (fun x=>ax x d'[a]!) d' j i
 generalize scanUp (fun x=>ax x d'[a]!) d' j i=i2 at*
 generalize scanDown (fun x=> !ax x d'[a]!) d' i2 j=j2 at*
 by_cases c:i2>j2
 ·rw[if_pos c]at up⊢
  clear ih
  simp (disch:=omega) only[aA,enc,up]
 ·rw[if_neg c]at up⊢
  rw[ih (i2+1,j2 - 1,swp d' i2 j2) ⟨by dsimp only;rw[cq];exact h1,by dsimp only;omega,by dsimp only;omega,by dsimp only;omega,by dsimp only;omega⟩ (by dsimp only;omega)]at up
  clear ih
  simp (disch:=omega) only[aA,enc,up]
def uX (nb:Bool) (a i j:Nat) (d:Array Er):List D:=
 if i>j then [.int .i64 j,.bool true,.ov 49 nb (ar aw (swp d j a))]else
  [.int .i64 ((partLoop ax a (i+1) (j - 1) (swp d i j)).1:Nat),.bool false,.ov 49 nb (ar aw (swp (partLoop ax a (i+1) (j - 1) (swp d i j)).2 (partLoop ax a (i+1) (j - 1) (swp d i j)).1 a))]
theorem Ci (k:Nat) (l:List D) (hl:l.length=N) (a i:Nat) (ha:a<i) (hi:i≤N) (av:List D) (Cf:∃ y,av= .int .i64 (i:Int)::y) (d:Array Er) (hd:d.size=N) (j:Nat) (hj:j<N) (hij:i≤j+2) (hk:j<k):
  iter k (ac.b1 (Cl ty tab) (N+2) l a av) [.int .i64 j,.ov 49 nb (ar aw d)]=some (uX nb a i (scanDown (fun x=> !ax x d[a]!) d i j) d):=by
 obtain⟨z,rfl⟩:=Cf
 refine br (R:=List D) (fun t:Nat=>[.int .i64 t,.ov 49 nb (ar aw d)]) (fun t=>some (uX nb a i (scanDown (fun x=> !ax x d[a]!) d i t) d)) (fun t=>t) (fun t=>t<N∧i≤t+2) (fun j hj ag ih=> ?_) k j ⟨hj,hij⟩ hk
 obtain⟨h1,h2⟩:=hj
 have g1:=aQ aw (d:=d) (i:=a) (by omega)
 have g2:=aQ aw (d:=d) (i:=j) (by omega)
 unfold ac.b1 ac.j2
 rcases Nat.lt_or_ge j i with c |c
 ·rw[iT c]
  unfold uX
  rw[if_pos c]
  clear ih
  simp (disch:=omega) only[aA,enc,hl,g1,g2,cD]
 ·have g3:=aQ aw (d:=d) (i:=i) (by omega)
  cases hp:ax d[j]! d[a]!
  ·have b6:=ih (j - 1) ⟨by omega,by omega⟩ (by omega)
   rw[←iS (p:=fun x=> !ax x d[a]!) (by omega) c (by simp[hp]),show (((j - 1:Nat):Nat):Int)=(j:Int) - 1 by omega]at b6
   rw[←b6]
   clear ih b6
   simp (disch:=omega) only[aA,enc,hl,g1,g2,g3,aT,hp]
  ·rw[jZ (p:=fun x=> !ax x d[a]!) (by simp[hp])]
   unfold uX
   rw[if_neg (show¬i>j by omega)]
   clear ih
   have pl:=wI nb hN l hl a (i+1) (j - 1) (by omega) (by omega) (by omega) (by omega) (swp d i j) (by rw[cq];exact hd)
   rw[show ((i+1:Nat):Int)=(i:Int)+1 by omega,show ((j - 1:Nat):Int)=(j:Int) - 1 by omega]at pl
   simp (disch:=omega) only[aA,enc,hl,g1,g2,g3,aT,hp,cD,pl]
theorem Cj (k:Nat) (l:List D) (hl:l.length=N) (a b:Nat) (hD:a<b) (hb:b≤N) (d:Array Er) (hd:d.size=N) (i:Nat) (hi:a<i) (Ih:i≤b) (hk:b<k+i):
  iter k (ac.b0 (Cl ty tab) (N+2) l a b) [.int .i64 i,.ov 49 nb (ar aw d)]=some (uX nb a (scanUp (fun x=>ax x d[a]!) d (b - 1) i) (scanDown (fun x=> !ax x d[a]!) d (scanUp (fun x=>ax x d[a]!) d (b - 1) i) (b - 1)) d):=by
 refine br (R:=List D) (fun t:Nat=>[.int .i64 t,.ov 49 nb (ar aw d)]) (fun i=>some (uX nb a (scanUp (fun x=>ax x d[a]!) d (b - 1) i) (scanDown (fun x=> !ax x d[a]!) d (scanUp (fun x=>ax x d[a]!) d (b - 1) i) (b - 1)) d)) (fun t=>b - t) (fun t=>a<t∧t≤b) (fun i hi ag ih=> ?_) k i ⟨hi,Ih⟩ (by omega)
 obtain⟨h1,h2⟩:=hi
 have dn:=Ci nb hN (N+2) l hl a i h1 (by omega) [.int .i64 (i:Int),.ov 49 nb (ar aw d)] ⟨_,rfl⟩ d hd (b - 1) (by omega) (by omega) (by omega)
 rw[show ((b - 1:Nat):Int)=(b:Int) - 1 by omega]at dn
 unfold ac.b0 ac.j3
 rcases Nat.lt_or_ge (b - 1) i with c |c
 ·rw[lp c,←dn]
  clear ih dn
  simp (disch:=omega) only[aA,enc,hl]
 ·have g1:=aQ aw (d:=d) (i:=a) (by omega)
  have g2:=aQ aw (d:=d) (i:=i) (by omega)
  cases hp:ax d[i]! d[a]!
  ·rw[m_ (p:=fun x=>ax x d[a]!) hp,←dn]
   clear ih dn
   simp (disch:=omega) only[aA,enc,hl,g1,g2,aT,hp]
  ·have b6:=ih (i+1) ⟨by omega,by omega⟩ (by omega)
   rw[←ln (p:=fun x=>ax x d[a]!) c hp,show ((i+1:Nat):Int)=(i:Int)+1 by omega]at b6
   rw[←b6]
   clear ih b6 dn
   simp (disch:=omega) only[aA,enc,hl,g1,g2,aT,hp]
theorem A9 (d:Array Er) (hd:d.size=N) (a b p:Nat) (hD:a<b) (hb:b≤N) (CO:a≤p) (vG:p<b):Cl ty tab 124 [.ov 49 nb (ar aw d),.int .i64 a,.int .i64 b,.int .i64 p,.fn 102 [.rp [.fn 81 []] 0]]=some [.int .i64 ((partition ax d a b p).1:Nat),.bool (partition ax d a b p).2.1,.ov 49 nb (ar aw (partition ax d a b p).2.2)]:=by
 refine gn (N+2) nb _ _ _ _ ?_
 unfold ac
 have hl:(ar aw d).length=N:=by rw[bY];exact hd
 have g1:=aQ aw (d:=d) (i:=a) (by omega)
 have g2:=aQ aw (d:=d) (i:=p) (by omega)
 have e:[D.int .i64 ((partition ax d a b p).1:Nat),.bool (partition ax d a b p).2.1,.ov 49 nb (ar aw (partition ax d a b p).2.2)]=uX nb a (scanUp (fun x=>ax x (swp d a p)[a]!) (swp d a p) (b - 1) (a+1)) (scanDown (fun x=> !ax x (swp d a p)[a]!) (swp d a p) (scanUp (fun x=>ax x (swp d a p)[a]!) (swp d a p) (b - 1) (a+1)) (b - 1)) (swp d a p):=by
  unfold partition uX
  dsimp only
  split<;>rfl
 rw[e]
 have ME:(swp d a p).size=N:=by rw[cq];exact hd
 have p0:=Cj nb hN (N+2) (ar aw d) hl a b hD hb (swp d a p) ME (a+1) (by omega) (by omega) (by omega)
 rw[show ((a+1:Nat):Int)=(a:Int)+1 by omega]at p0
 simp (disch:=omega) only[aA,enc,hl,g1,g2,cD]
 exact p0
end
end Go.Proofs.Ytkfnkiejikhglaa.Own
namespace Go.Proofs.Ytkfnkiejikhglaa.Own
open Go Go.Proofs.Ytkfnkiejikhglaa.GD Go.Sort
set_option maxHeartbeats 1000000
theorem zk (h:Hint):(nJ h==1)=decide (h=Hint.increasing):=by cases h<;>rfl
theorem zm (h:Hint):(nJ h==2)=decide (h=Hint.decreasing):=by cases h<;>rfl
section
variable (nb:Bool) {N:Nat} (hN:N<65536) {l:List D} (hl:l.length=N) {a b:Nat} (hD:a+12<b) (hb:b≤N) (ag:List D→Option (List D)) (l0:Nat) (wb wp:Bool) (x:D)
include hN hl hD hb
theorem GV (d:Array Er) (hd:d.size=N) (h0:l0≠0) (h1:l0<1000):
  ae.b0 (Cl ty tab) (N+2) l [.int .i64 a,.int .i64 b,.int .i64 l0,.bool wb,.bool wp,.ov 49 nb (ar aw d)] ag=
   ae.j3 (Cl ty tab) (N+2) l ag [.int .i64 a,.int .i64 b,.int .i64 l0,.bool wb,.bool wp,.ov 49 nb (ar aw d)] ((if _h:(!wb)=true then l0 - 1 else l0:Nat):Int) nb (ar aw (if _h:(!wb)=true then breakPatterns d a b else d)):=by
 unfold ae.b0
 have e:=D1 nb hN d hd a b (by omega) hb
 cases wb
 ·rw[dif_pos (show (!false)=true from rfl),dif_pos (show (!false)=true from rfl),show ((l0 - 1:Nat):Int)=(l0:Int) - 1 by omega]
  simp (disch:=omega) only[aA,enc,e]
 ·rw[dif_neg (show¬(!true)=true by simp),dif_neg (show¬(!true)=true by simp)]
  simp (disch:=omega) only[aA,enc]
theorem GW (d:Array Er) (hd:d.size=N) (uY:Int):
  ae.j3 (Cl ty tab) (N+2) l ag [.int .i64 a,.int .i64 b,.int .i64 l0,.bool wb,.bool wp,x] uY nb (ar aw d)=
   ae.j2 (Cl ty tab) (N+2) l ag [.int .i64 a,.int .i64 b,.int .i64 l0,.bool wb,.bool wp,x] uY ((if _h:(choosePivot ax d a b).2=Hint.decreasing then (b - 1) - ((choosePivot ax d a b).1 - a)else (choosePivot ax d a b).1:Nat):Int)
    (nJ (if _h:(choosePivot ax d a b).2=Hint.decreasing then Hint.increasing else (choosePivot ax d a b).2)) nb (ar aw (if _h:(choosePivot ax d a b).2=Hint.decreasing then reverseRange d a b else d)):=by
 unfold ae.j3
 have e:=D0 nb hN d hd a b (by omega) hb
 have e2:=DZ nb hN d hd a b (by omega) hb
 have hc:=choosePivot_holds ax d a b (by omega)
 generalize choosePivot ax d a b=c at*
 obtain⟨c1,c2⟩:=c
 dsimp only at e hc⊢
 by_cases h:c2=Hint.decreasing
 ·subst h
  rw[dif_pos rfl,dif_pos rfl,dif_pos rfl,show ((b - 1 - (c1 - a):Nat):Int)=(b:Int) - 1 - ((c1:Int) - a)by omega]
  simp only[nJ]at e⊢
  simp (disch:=omega) only[aA,enc,e,e2]
 ·rw[dif_neg h,dif_neg h,dif_neg h]
  have hn:(nJ c2==2)=false:=by rw[zm];simp[h]
  simp (disch:=omega) only[enc,HZ,e,Option.bind_some,List.getD_cons_zero,List.getD_cons_succ,uz,C6,hn,cf,C7,AK]
theorem GX (d:Array Er) (hd:d.size=N) (uY p:Int) (h:Hint):
  ae.j2 (Cl ty tab) (N+2) l ag [.int .i64 a,.int .i64 b,.int .i64 l0,.bool wb,.bool wp,x] uY p (nJ h) nb (ar aw d)=
   if (if _h:(wb&&wp&&decide (h=Hint.increasing))=true then partialInsertionSort ax d a b else (d,false)).2=true then some [.ov 49 nb (ar aw (if _h:(wb&&wp&&decide (h=Hint.increasing))=true then partialInsertionSort ax d a b else (d,false)).1)]else
    ae.j1 (Cl ty tab) (N+2) l ag [.int .i64 a,.int .i64 b,.int .i64 l0,.bool wb,.bool wp,x] uY p nb (ar aw (if _h:(wb&&wp&&decide (h=Hint.increasing))=true then partialInsertionSort ax d a b else (d,false)).1):=by
 unfold ae.j2
 have e:=Ch nb hN d hd a b (by omega) hb
 rw[zk]
 generalize partialInsertionSort ax d a b=r at*
 obtain⟨r1,r2⟩:=r
 cases wb<;>cases wp<;>cases h<;>cases r2<;>simp[enc,HZ,e,uz,y9,DP,C7,AK,C6]
theorem Ii (d:Array Er) (hd:d.size=N) (uY:Int) (p:Nat) (CO:a≤p) (vG:p<b):
  ae.j1 (Cl ty tab) (N+2) l ag [.int .i64 a,.int .i64 b,.int .i64 l0,.bool wb,.bool wp,x] uY p nb (ar aw d)=
   if (decide (a>0)&& !ax d[a - 1]! d[p]!)=true then ag [.int .i64 ((partitionEqual ax d a b p).1:Nat),.int .i64 b,.int .i64 uY,.bool wb,.bool wp,.ov 49 nb (ar aw (partitionEqual ax d a b p).2)]else
    ae.j0 (Cl ty tab) (N+2) ag [.int .i64 a,.int .i64 b,.int .i64 l0,.bool wb,.bool wp,x] uY p nb (ar aw d):=by
 unfold ae.j1
 have e:=D4 nb hN d hd a b p (by omega) hb CO vG
 by_cases h0:0<a
 ·have g1:=aQ aw (d:=d) (i:=a - 1) (by omega)
  have g2:=aQ aw (d:=d) (i:=p) (by omega)
  cases hc:ax d[a - 1]! d[p]!
  ·rw[if_pos (show (decide (a>0)&& !false)=true by simp[h0])]
   simp (disch:=omega) only[aA,enc,hl,g1,g2,aT,hc,e]
  ·rw[if_neg (show¬(decide (a>0)&& !true)=true by simp)]
   simp (disch:=omega) only[aA,enc,hl,g1,g2,aT,hc,e]
 ·rw[if_neg (show¬(decide (a>0)&& !ax d[a - 1]! d[p]!)=true by simp[h0])]
  simp (disch:=omega) only[aA,enc,hl]
theorem Ij (d:Array Er) (hd:d.size=N) (uY:Nat) (p:Nat) (CO:a≤p) (vG:p<b) (mid:Nat) (ap:Bool) (d4 dL:Array Er) (hx:partition ax d a b p=(mid,ap,d4)) (Ig:a≤mid) (GU:mid<b) (hlt:mid - a<b - mid)
  (hr:Cl ty tab 109 [.ov 49 nb (ar aw d4),.int .i64 a,.int .i64 mid,.int .i64 uY,.fn 102 [.rp [.fn 81 []] 0]]=some [.ov 49 nb (ar aw dL)]):
  ae.j0 (Cl ty tab) (N+2) ag [.int .i64 a,.int .i64 b,.int .i64 l0,.bool wb,.bool wp,x] uY p nb (ar aw d)=
   ag [.int .i64 ((mid+1:Nat):Int),.int .i64 b,.int .i64 uY,.bool (decide (mid - a≥(b - a)/8)),.bool ap,.ov 49 nb (ar aw dL)]:=by
 unfold ae.j0
 have e:=A9 nb hN d hd a b p (by omega) hb CO vG
 rw[hx]at e
 have et:((b:Int) - a).tdiv 8=(((b - a)/8:Nat):Int):=by rw[←rt];congr 1;omega
 have ed:decide ((((b - a)/8:Nat):Int)≤(mid:Int) - a)=decide (mid - a≥(b - a)/8):=by
  apply decide_eq_decide.2;omega
 rw[show ((mid+1:Nat):Int)=(mid:Int)+1 by omega]
 simp (disch:=omega) only[aA,enc,e,hr,et,ed]
theorem Ik (d:Array Er) (hd:d.size=N) (uY:Nat) (p:Nat) (CO:a≤p) (vG:p<b) (mid:Nat) (ap:Bool) (d4 dL:Array Er) (hx:partition ax d a b p=(mid,ap,d4)) (Ig:a≤mid) (GU:mid<b) (hlt: ¬mid - a<b - mid)
  (hr:Cl ty tab 109 [.ov 49 nb (ar aw d4),.int .i64 ((mid+1:Nat):Int),.int .i64 b,.int .i64 uY,.fn 102 [.rp [.fn 81 []] 0]]=some [.ov 49 nb (ar aw dL)]):
  ae.j0 (Cl ty tab) (N+2) ag [.int .i64 a,.int .i64 b,.int .i64 l0,.bool wb,.bool wp,x] uY p nb (ar aw d)=
   ag [.int .i64 a,.int .i64 mid,.int .i64 uY,.bool (decide (b - mid≥(b - a)/8)),.bool ap,.ov 49 nb (ar aw dL)]:=by
 unfold ae.j0
 have e:=A9 nb hN d hd a b p (by omega) hb CO vG
 rw[hx]at e
 have et:((b:Int) - a).tdiv 8=(((b - a)/8:Nat):Int):=by rw[←rt];congr 1;omega
 have ed:decide ((((b - a)/8:Nat):Int)≤(b:Int) - mid)=decide (b - mid≥(b - a)/8):=by
  apply decide_eq_decide.2;omega
 rw[show ((mid+1:Nat):Int)=(mid:Int)+1 by omega]at hr
 simp (disch:=omega) only[aA,enc,e,hr,et,ed]
end
section
variable (nb:Bool) {N:Nat} (hN:N<65536)
include hN
theorem Ck (d:Array Er) (a b cd:Nat) (wb wp:Bool):a≤b→b≤d.size→Below ax a b d→d.size=N→cd<1000→∀ (l:List D) (k:Nat),l.length=N→b - a<k→
  iter k (ae.b0 (Cl ty tab) (N+2) l) [.int .i64 a,.int .i64 b,.int .i64 cd,.bool wb,.bool wp,.ov 49 nb (ar aw d)]=some [.ov 49 nb (ar aw (pdq ax d a b cd wb wp))]:=by
 have hS:=oq
 fun_induction pdq ax d a b cd wb wp
 case case1 d a b cd wb wp h12=>
  intro hD hb hB hd qb l k hl hk
  obtain⟨k,rfl⟩:∃ j,k=j+1:=⟨k - 1,by omega⟩
  unfold iter ae.b0
  have e:=DX nb hN d hd a b hD (by omega)
  simp (disch:=omega) only[aA,enc,e]
 case case2 d a b wb wp h12=>
  intro hD hb hB hd qb l k hl hk
  obtain⟨k,rfl⟩:∃ j,k=j+1:=⟨k - 1,by omega⟩
  unfold iter ae.b0
  have e:=Cd nb hN d hd a b (by omega) (by omega)
  simp (disch:=omega) only[aA,enc,e]
 case case3 d a b cd wb wp h12 xp d1 c d2 qw pi ti=>
  intro hD hb hB hd qb l k hl hk
  obtain⟨k,rfl⟩:∃ j,k=j+1:=⟨k - 1,by omega⟩
  have s1:PermIn a b d d1:=step_break d hD hb _
  have b1:b≤d1.size:=by rw[s1.1];exact hb
  have s2:PermIn a b d1 d2:=step_reverse reverseRange_holds d1 hD b1 _
  unfold iter
  rw[GV nb hN hl (a:=a) (b:=b) (by omega) (by omega) _ cd wb wp d hd xp qb,GW nb hN hl (a:=a) (b:=b) (by omega) (by omega) _ cd wb wp _ d1 (by rw[s1.1];exact hd),GX nb hN hl (a:=a) (b:=b) (by omega) (by omega) _ cd wb wp _ d2 (by rw[s2.1,s1.1];exact hd),if_pos ti]
 case case4 d a b dF wb wp h12 xp d1 cd c d2 ey qw pi ti d3 hc mid d4 hx hg ih1=>
  intro hD hb hB hd qb l k hl hk
  obtain⟨k,rfl⟩:∃ j,k=j+1:=⟨k - 1,by omega⟩
  have s1:PermIn a b d d1:=step_break d hD hb _
  have b1:b≤d1.size:=by rw[s1.1];exact hb
  have s2:PermIn a b d1 d2:=step_reverse reverseRange_holds d1 hD b1 _
  have b2:b≤d2.size:=by rw[s2.1];exact b1
  have B2:Below ax a b d2:=(hB.perm hb s1).perm b1 s2
  have s3:=step_partial partialInsertionSort_holds hS d2 (a:=a) (b:=b) (by omega) b2 B2 ((wb&&wp&&decide (qw=Hint.increasing))=true)
  have uZ:PermIn a b d2 d3:=s3.1
  have b3:b≤d3.size:=by rw[uZ.1];exact b2
  have B3:Below ax a b d3:=B2.perm b2 uZ
  have hc0:=choosePivot_holds ax d1 a b (by omega)
  have ot:a≤ey∧ey<b:=pivot_range hc0.1 hc0.2 _
  have xR:d3.size=N:=by rw[uZ.1,s2.1,s1.1];exact hd
  have hc':=hc
  simp only[zq3,decide_eq_true_eq,Bool.not_eq_true']at hc
  obtain⟨Ig,GU,vn,MF,hfin⟩:=round_eq hS (partitionEqual_holds ax) hc.1 ot.1 ot.2 b3 B3 hc.2 hx
  have D5:cd<1000:=by simp only[cd];split<;>omega
  unfold iter
  rw[GV nb hN hl (a:=a) (b:=b) (by omega) (by omega) _ dF wb wp d hd xp qb,GW nb hN hl (a:=a) (b:=b) (by omega) (by omega) _ dF wb wp _ d1 (by rw[s1.1];exact hd),GX nb hN hl (a:=a) (b:=b) (by omega) (by omega) _ dF wb wp _ d2 (by rw[s2.1,s1.1];exact hd),if_neg ti]
  refine (Ii nb hN hl (a:=a) (b:=b) (by omega) (by omega) _ dF wb wp _ d3 xR _ ey ot.1 ot.2).trans ?_
  rw[if_pos hc',hx]
  exact ih1 GU (by rw[vn];exact b3) MF (by rw[vn];exact xR) D5 l k hl (by omega)
 case case5 d a b cd wb wp h12 xp d1 c d2 ey qw pi ti d3 hc mid d4 hx hg=>
  intro hD hb hB hd qb l k hl hk
  have s1:PermIn a b d d1:=step_break d hD hb _
  have b1:b≤d1.size:=by rw[s1.1];exact hb
  have s2:PermIn a b d1 d2:=step_reverse reverseRange_holds d1 hD b1 _
  have b2:b≤d2.size:=by rw[s2.1];exact b1
  have B2:Below ax a b d2:=(hB.perm hb s1).perm b1 s2
  have s3:=step_partial partialInsertionSort_holds hS d2 (a:=a) (b:=b) (by omega) b2 B2 ((wb&&wp&&decide (qw=Hint.increasing))=true)
  have uZ:PermIn a b d2 d3:=s3.1
  have b3:b≤d3.size:=by rw[uZ.1];exact b2
  have B3:Below ax a b d3:=B2.perm b2 uZ
  have hc0:=choosePivot_holds ax d1 a b (by omega)
  have ot:a≤ey∧ey<b:=pivot_range hc0.1 hc0.2 _
  simp only[zq3,decide_eq_true_eq,Bool.not_eq_true']at hc
  obtain⟨g1,g2,_⟩:=round_eq hS (partitionEqual_holds ax) hc.1 ot.1 ot.2 b3 B3 hc.2 hx
  exact absurd ⟨g1,g2⟩ hg
 case case6 d a b dF wb wp h12 xp d1 cd c d2 ey qw pi ti d3 hc mid ap d4 hx hg hlt ih3 ih2 ih1=>
  intro hD hb hB hd qb l k hl hk
  obtain⟨k,rfl⟩:∃ j,k=j+1:=⟨k - 1,by omega⟩
  have s1:PermIn a b d d1:=step_break d hD hb _
  have b1:b≤d1.size:=by rw[s1.1];exact hb
  have s2:PermIn a b d1 d2:=step_reverse reverseRange_holds d1 hD b1 _
  have b2:b≤d2.size:=by rw[s2.1];exact b1
  have B2:Below ax a b d2:=(hB.perm hb s1).perm b1 s2
  have s3:=step_partial partialInsertionSort_holds hS d2 (a:=a) (b:=b) (by omega) b2 B2 ((wb&&wp&&decide (qw=Hint.increasing))=true)
  have uZ:PermIn a b d2 d3:=s3.1
  have b3:b≤d3.size:=by rw[uZ.1];exact b2
  have B3:Below ax a b d3:=B2.perm b2 uZ
  have hc0:=choosePivot_holds ax d1 a b (by omega)
  have ot:a≤ey∧ey<b:=pivot_range hc0.1 hc0.2 _
  have xR:d3.size=N:=by rw[uZ.1,s2.1,s1.1];exact hd
  obtain⟨g1,g2,vn,Il,In,FN,_⟩:=round_part hS (partition_holds ax) ot.1 ot.2 b3 B3 hx
  have D5:cd<1000:=by simp only[cd];split<;>omega
  have D6:=ih3 g1 (by rw[vn];omega) Il (by rw[vn];exact xR) D5 (ar aw d4) (N+2) (by rw[bY,vn];exact xR) (by omega)
  obtain⟨l1,l2⟩:=pdq_sorts ax hS d4 a mid cd true true g1 (by rw[vn];omega) Il
  obtain⟨Io,hfin⟩:=FN _ l1 l2
  have hr:Cl ty tab 109 [.ov 49 nb (ar aw d4),.int .i64 a,.int .i64 mid,.int .i64 cd,.fn 102 [.rp [.fn 81 []] 0]]=some [.ov 49 nb (ar aw (pdq ax d4 a mid cd true true))]:=by
   refine cl (N+2) nb _ _ _ _ ?_
   unfold ae
   exact D6
  unfold iter
  rw[GV nb hN hl (a:=a) (b:=b) (by omega) (by omega) _ dF wb wp d hd xp qb,GW nb hN hl (a:=a) (b:=b) (by omega) (by omega) _ dF wb wp _ d1 (by rw[s1.1];exact hd),GX nb hN hl (a:=a) (b:=b) (by omega) (by omega) _ dF wb wp _ d2 (by rw[s2.1,s1.1];exact hd),if_neg ti]
  refine (Ii nb hN hl (a:=a) (b:=b) (by omega) (by omega) _ dF wb wp _ d3 xR _ ey ot.1 ot.2).trans ?_
  rw[if_neg hc]
  refine (Ij nb hN hl (a:=a) (b:=b) (by omega) (by omega) _ dF wb wp _ d3 xR cd ey ot.1 ot.2 mid ap d4 _ hx g1 g2 hlt hr).trans ?_
  exact ih1 (by omega) (by rw[l1.1,vn];exact b3) Io (by rw[l1.1,vn];exact xR) D5 l k hl (by omega)
 case case7 d a b dF wb wp h12 xp d1 cd c d2 ey qw pi ti d3 hc mid ap d4 hx hg hlt ih3 ih2 ih1=>
  intro hD hb hB hd qb l k hl hk
  obtain⟨k,rfl⟩:∃ j,k=j+1:=⟨k - 1,by omega⟩
  have s1:PermIn a b d d1:=step_break d hD hb _
  have b1:b≤d1.size:=by rw[s1.1];exact hb
  have s2:PermIn a b d1 d2:=step_reverse reverseRange_holds d1 hD b1 _
  have b2:b≤d2.size:=by rw[s2.1];exact b1
  have B2:Below ax a b d2:=(hB.perm hb s1).perm b1 s2
  have s3:=step_partial partialInsertionSort_holds hS d2 (a:=a) (b:=b) (by omega) b2 B2 ((wb&&wp&&decide (qw=Hint.increasing))=true)
  have uZ:PermIn a b d2 d3:=s3.1
  have b3:b≤d3.size:=by rw[uZ.1];exact b2
  have B3:Below ax a b d3:=B2.perm b2 uZ
  have hc0:=choosePivot_holds ax d1 a b (by omega)
  have ot:a≤ey∧ey<b:=pivot_range hc0.1 hc0.2 _
  have xR:d3.size=N:=by rw[uZ.1,s2.1,s1.1];exact hd
  obtain⟨g1,g2,vn,Il,In,_,D7⟩:=round_part hS (partition_holds ax) ot.1 ot.2 b3 B3 hx
  have D5:cd<1000:=by simp only[cd];split<;>omega
  have D6:=ih3 (by omega) (by rw[vn];exact b3) In (by rw[vn];exact xR) D5 (ar aw d4) (N+2) (by rw[bY,vn];exact xR) (by omega)
  obtain⟨l1,l2⟩:=pdq_sorts ax hS d4 (mid+1) b cd true true (by omega) (by rw[vn];exact b3) In
  obtain⟨Io,hfin⟩:=D7 _ l1 l2
  have hr:Cl ty tab 109 [.ov 49 nb (ar aw d4),.int .i64 ((mid+1:Nat):Int),.int .i64 b,.int .i64 cd,.fn 102 [.rp [.fn 81 []] 0]]=some [.ov 49 nb (ar aw (pdq ax d4 (mid+1) b cd true true))]:=by
   refine cl (N+2) nb _ _ _ _ ?_
   unfold ae
   exact D6
  unfold iter
  rw[GV nb hN hl (a:=a) (b:=b) (by omega) (by omega) _ dF wb wp d hd xp qb,GW nb hN hl (a:=a) (b:=b) (by omega) (by omega) _ dF wb wp _ d1 (by rw[s1.1];exact hd),GX nb hN hl (a:=a) (b:=b) (by omega) (by omega) _ dF wb wp _ d2 (by rw[s2.1,s1.1];exact hd),if_neg ti]
  refine (Ii nb hN hl (a:=a) (b:=b) (by omega) (by omega) _ dF wb wp _ d3 xR _ ey ot.1 ot.2).trans ?_
  rw[if_neg hc]
  refine (Ik nb hN hl (a:=a) (b:=b) (by omega) (by omega) _ dF wb wp _ d3 xR cd ey ot.1 ot.2 mid ap d4 _ hx g1 g2 hlt hr).trans ?_
  exact ih1 g1 (by rw[l1.1,vn];omega) Io (by rw[l1.1,vn];exact xR) D5 l k hl (by omega)
 case case8 d a b cd wb wp h12 xp d1 c d2 ey qw pi ti d3 hc mid ap d4 hx hg=>
  intro hD hb hB hd qb l k hl hk
  have s1:PermIn a b d d1:=step_break d hD hb _
  have b1:b≤d1.size:=by rw[s1.1];exact hb
  have s2:PermIn a b d1 d2:=step_reverse reverseRange_holds d1 hD b1 _
  have b2:b≤d2.size:=by rw[s2.1];exact b1
  have B2:Below ax a b d2:=(hB.perm hb s1).perm b1 s2
  have s3:=step_partial partialInsertionSort_holds hS d2 (a:=a) (b:=b) (by omega) b2 B2 ((wb&&wp&&decide (qw=Hint.increasing))=true)
  have uZ:PermIn a b d2 d3:=s3.1
  have b3:b≤d3.size:=by rw[uZ.1];exact b2
  have B3:Below ax a b d3:=B2.perm b2 uZ
  have hc0:=choosePivot_holds ax d1 a b (by omega)
  have ot:a≤ey∧ey<b:=pivot_range hc0.1 hc0.2 _
  obtain⟨g1,g2,_⟩:=round_part hS (partition_holds ax) ot.1 ot.2 b3 B3 hx
  exact absurd ⟨g1,g2⟩ hg
end
theorem Cm (nb:Bool) (xs:List Er) (h:xs.length<65536):Cl ty tab 101 [.ov 49 nb (xs.map aw),.fn 102 [.rp [.fn 81 []] 0]]=some [.ov 49 nb ((sort ax xs.toArray).toList.map aw)]:=by
 refine mb 0 nb _ ?_
 unfold jf
 have hw:IntKind.u64.wrap ((xs.length:Nat):Int)=((xs.length:Nat):Int):=qa (by omega) (by omega)
 have K5:bitsLen xs.length≤16:=(bitsLen_le_iff _ 16).2 (by omega)
 have e:=xP xs.length h
 have hp:Cl ty tab 109 [.ov 49 nb (ar aw xs.toArray),.int .i64 ((0:Nat):Int),.int .i64 (xs.length:Nat),.int .i64 (bitsLen xs.length:Nat),.fn 102 [.rp [.fn 81 []] 0]]=some [.ov 49 nb (ar aw (pdq ax xs.toArray 0 xs.length (bitsLen xs.length) true true))]:=by
  refine cl (xs.length+2) nb _ _ _ _ ?_
  unfold ae
  exact Ck nb h xs.toArray 0 xs.length (bitsLen xs.length) true true (Nat.zero_le _) (by simp) (Or.inl rfl) (by simp) (by omega) _ _ (by simp[bY]) (by omega)
 rw[FJ,show ((0:Nat):Int)=0 from rfl]at hp
 simp (disch:=omega) only[aA,hw,e,hp]
 rfl
theorem u0 (xs:List Er):(sort ax xs.toArray).toList.Perm xs∧(sort ax xs.toArray).toList.Pairwise fun a b=>ax b a=false:=by
 obtain⟨⟨h1,h2,h3⟩,h4⟩:=sort_sorts ax oq xs.toArray
 have hs:(sort ax xs.toArray).size=xs.length:=by rw[h1];simp
 refine⟨?_, ?_⟩
 ·have e1:(sort ax xs.toArray).extract 0 xs.toArray.size=sort ax xs.toArray:=by
   have:xs.toArray.size=(sort ax xs.toArray).size:=by rw[hs];simp
   rw[this];simp
  have e2:xs.toArray.extract 0 xs.toArray.size=xs.toArray:=by simp
  rw[e1,e2]at h3
  simpa using h3
 ·rw[List.pairwise_iff_getElem]
  intro i j hi hj hij
  have:=h4 i j (Nat.zero_le _) hij (by simpa[hs]using hj)
  have hi':i<(sort ax xs.toArray).size:=by simpa using hi
  have hj':j<(sort ax xs.toArray).size:=by simpa using hj
  rw[getElem!_pos _ j hj',getElem!_pos _ i hi']at this
  simpa using this
end Go.Proofs.Ytkfnkiejikhglaa.Own
namespace Go.Proofs.Ytkfnkiejikhglaa.GD
open Go
section
variable {κ β:Type} [DecidableEq κ] (kd:κ→D) (vd:β→D)
def f_ (x:κ):List (κ×β)→Option β
 |[]=>none
 |(k,v)::m=>if x=k then some v else f_ x m
def nY (x:κ) (y:β):List (κ×β)→List (κ×β)
 |[]=>[(x,y)]
 |(k,v)::m=>if x=k then (k,y)::m else (k,v)::nY x y m
def nK (m:List (κ×β)):List D:=m.map fun e=>kd e.1
def rB (m:List (κ×β)):List D:=m.map fun e=>vd e.2
variable (hk:∀ a b,nM (kd a) (kd b)=decide (a=b))
include hk
theorem u3 (x:κ):∀ m:List (κ×β),ku (kd x) (nK kd m) (rB vd m)=(f_ x m).map vd
 |[]=>rfl
 |(k,v)::m=>by
  have ih:=u3 x m
  simp only[nK,rB,List.map_cons,ku,hk,f_]at ih⊢
  by_cases h:x=k
  ·simp[h]
  ·simp[h,ih]
theorem u4 (x:κ) (y:β):∀ m:List (κ×β),gr (kd x) (nK kd m)=nK kd (nY x y m)
 |[]=>rfl
 |(k,v)::m=>by
  have ih:=u4 x y m
  simp only[nK,List.map_cons,gr,hk,nY]at ih⊢
  by_cases h:x=k
  ·simp[h]
  ·simp[h,ih]
theorem u5 (x:κ) (y:β):∀ m:List (κ×β),ic (kd x) (vd y) (nK kd m) (rB vd m)=rB vd (nY x y m)
 |[]=>rfl
 |(k,v)::m=>by
  have ih:=u5 x y m
  simp only[nK,rB,List.map_cons,ic,hk,nY]at ih⊢
  by_cases h:x=k
  ·simp[h]
  ·simp[h,ih]
omit hk
theorem na (x z:κ) (y:β):∀ m:List (κ×β),f_ z (nY x y m)=if z=x then some y else f_ z m
 |[]=>by simp[nY,f_]
 |(k,v)::m=>by
  have ih:=na x z y m
  by_cases h:x=k
  ·subst h
   by_cases hz:z=x<;>simp[nY,f_,hz]
  ·by_cases hz:z=k
   ·subst hz
    simp[nY,f_,h,Ne.symm h]
   ·simp[nY,f_,h,hz,ih]
end
end Go.Proofs.Ytkfnkiejikhglaa.GD
namespace Go.Proofs.Ytkfnkiejikhglaa.Own
open Go Go.Proofs.Ytkfnkiejikhglaa.GD Go.Proofs.Ytkfnkiejikhglaa.GD.Trie Go.Sort
structure Px where
 f:Int
 h:Nat
 l:Nat
 n:Int
deriving DecidableEq,Inhabited
abbrev Px.d (p:Px):D:=P4 p.f p.h p.l p.n
def Er.px (x:Er):Px:=⟨x.f,x.h,x.l,x.n⟩
structure Nr where
 f:Int
 h:Nat
 l:Nat
 n:Int
 nb:Bool
 vs:List Int
 c0:Int
 c1:Int
deriving Inhabited
def dk (x:Nr):D:= .agg [.int .u8 x.f,.int .u64 (x.h:Int),.int .u64 (x.l:Int),.int .i64 x.n,.sl 3 x.nb (iv x.vs),.int .i64 x.c0,.int .i64 x.c1]
theorem wJ:(∀ x:Nr,(dk x).cell 0= .int .u8 x.f)∧(∀ x:Nr,(dk x).cell 1= .int .u64 (x.h:Int))∧(∀ x:Nr,(dk x).cell 2= .int .u64 (x.l:Int))∧(∀ x:Nr,(dk x).cell 3= .int .i64 x.n)∧(∀ x:Nr,(dk x).cell 4= .sl 3 x.nb (iv x.vs))∧
  (∀ x:Nr,(dk x).cell 5= .int .i64 x.c0)∧(∀ x:Nr,(dk x).cell 6= .int .i64 x.c1)∧
  (∀ x:Nr,D.agg [.int .u8 x.f,.int .u64 (x.h:Int),.int .u64 (x.l:Int),.int .i64 x.n,.sl 3 x.nb (iv x.vs),.int .i64 x.c0,.int .i64 x.c1]=dk x):=
 ⟨fun _=>rfl,fun _=>rfl,fun _=>rfl,fun _=>rfl,fun _=>rfl,fun _=>rfl,fun _=>rfl,fun _=>rfl⟩
structure Er.eC (x:Er):Prop where
 r:fE x.h x.l
 nb:x.nb=true→x.vs=[]
structure Nr.eC (x:Nr):Prop where
 r:fE x.h x.l
 nb:x.nb=true→x.vs=[]
def A_:List Int→Bool
 |a::b::l=>decide (a<b)&&A_ (b::l)
 |_=>true
def gd (l:List Int):Bool:= !l.isEmpty&&(decide (l.length≤4000)&&(decide (0≤l.headD 0)&&A_ l))
theorem zn (nb:Bool) (v:List Int):Cl ty tab 76 [.sl 3 nb (iv v)]=some [.bool (gd v)]:=by
 obtain⟨k,hk⟩:=cP
 refine qp k _ _ ?_
 unfold db gd
 have hlen:(iv v).length=v.length:=by simp
 cases hv:v with
 |nil=>simp (disch:=omega) only[aA];simp
 |cons a r=>
  rw[←hv]
  have h0: ¬((v.length:Nat):Int)=0:=by rw[hv];simp;omega
  have he:v.isEmpty=false:=by rw[hv];rfl
  by_cases h1:v.length≤4000
  ·have h2: ¬(4000:Int)<((v.length:Nat):Int):=by omega
   have K6:(iv v).getD 0 .undef=D.int .i64 a:=by rw[hv];rfl
   have hh:v.headD 0=a:=by rw[hv];rfl
   by_cases h3:a<0
   ·have h4: ¬0≤a:=by omega
    simp (disch:=omega) only[aA,hlen,h0,he,h1,h2,K6,h3,h4,hh]
   ·have h4:0≤a:=by omega
    have:=cS (F:=db.b0 (Cl ty tab) k (iv v)) (v.length - 1) (fun i=>[.int .i64 ((i:Int)+1)]) (fun i=>some [.bool (A_ (v.drop i))]) (fun i hi again ha=> ?_) (fun again=> ?_) k (by omega) 0 (by omega)
    ·have e:(0:Int)+1=1:=rfl
     rw[show ((0:Nat):Int)+1=1 from rfl,List.drop_zero]at this
     simp (disch:=omega) only[aA,hlen,h0,he,h1,h2,K6,h3,h4,hh,this]
    ·unfold db.b0
     have g1:(iv v).getD i .undef=D.int .i64 v[i]:=bo (by omega)
     have g2:(iv v).getD (i+1) .undef=D.int .i64 v[i+1]:=bo (by omega)
     have hd:v.drop i=v[i]::v[i+1]::v.drop (i+2):=by
      rw[List.drop_eq_getElem_cons (by omega),List.drop_eq_getElem_cons (by omega)]
     have Bw:v.drop (i+1)=v[i+1]::v.drop (i+2):=List.drop_eq_getElem_cons (by omega)
     rw[Bw]at ha
     rw[hd]
     unfold A_
     have e1:(i:Int)+1 - 1=i:=by omega
     by_cases hlt:v[i]<v[i+1]
     ·have hle: ¬v[i+1]≤v[i]:=by omega
      simp (disch:=omega) only[aA,hlen,e1,g1,g2,hlt,hle,Int.natCast_add,Int.natCast_one]at ha⊢
      exact ha
     ·have hle:v[i+1]≤v[i]:=by omega
      simp (disch:=omega) only[aA,hlen,e1,g1,g2,hlt,hle]
    ·unfold db.b0
     have hd:v.drop (v.length - 1)=[v[v.length - 1]'(by rw[hv];simp)]:=by
      rw[List.drop_eq_getElem_cons (by rw[hv];simp),List.drop_eq_nil_of_le (by omega)]
     have e1: ¬(((v.length - 1:Nat):Int)+1)<((v.length:Nat):Int):=by omega
     rw[hd]
     simp (disch:=omega) only[aA,hlen,e1,A_]
  ·have h2:(4000:Int)<((v.length:Nat):Int):=by omega
   simp (disch:=omega) only[aA,hlen,h0,he,h1,h2]
theorem wK (a b:Px):nM a.d b.d=decide (a=b):=by
 obtain⟨f,h,l,n⟩:=a
 obtain⟨f',h',l',n'⟩:=b
 simp only[Px.d,nM,cellsOf,mB,tF,Option.getD_some,Px.mk.injEq,Int.ofNat_inj,Ft,Bool.decide_and,if_true]
def dh:List (Px×Unit)→List Er→Int
 |_,[]=>0
 |m,x::r=>if co x.f x.h x.l x.n≠0 then co x.f x.h x.l x.n else if gd x.vs=false then 2 else if (f_ x.px m).isSome=true then 14 else dh (nY x.px () m) r
theorem u6 (nb:Bool) (L:List Er) (hg:∀ x,x∈L→x.eC) (hl:L.length≤9223372036854775807):Cl ty tab 37 [.sl 49 nb (L.map aw)]=some [.int .i64 (dh [] L)]:=by
 obtain⟨k,hk⟩:=cP
 refine sA k _ _ ?_
 unfold eN
 have hlen:(L.map aw).length=L.length:=by simp
 refine br (F:=eN.b0 (Cl ty tab) k (L.map aw)) (σ:=Nat×List (Px×Unit)) (fun s=>[.int .i64 s.1,.mpv (nK Px.d s.2) (rB (fun _=>D.bool true) s.2)]) (fun s=>some [.int .i64 (dh s.2 (L.drop s.1))]) (fun s=>L.length - s.1) (fun s=>s.1≤L.length) (fun s hs again ih=> ?_) k (0,[]) (by simp) (by simp;omega)
 obtain⟨i,m⟩:=s
 dsimp only at hs ih⊢
 unfold eN.b0
 rcases Nat.lt_or_ge i L.length with hi |hi
 ·have g:=bo (f:=aw) hi
  have hd:L.drop i=L[i]::L.drop (i+1):=List.drop_eq_getElem_cons hi
  rw[hd]
  have hx:=hg L[i] (List.getElem_mem hi)
  generalize L[i]=x at*
  have c1:=dP x.f x.h x.l x.n hx.r
  have c2:=zn x.nb x.vs
  unfold dh
  by_cases h1:co x.f x.h x.l x.n=0
  ·cases h2:gd x.vs
   ·simp (disch:=omega) only[aA,hlen,g,enc,c1,c2,h1,h2,ne_eq,not_true_eq_false]
   ·have m1:=u3 Px.d (fun _:Unit=>D.bool true) wK x.px m
    have m2:=u4 Px.d wK x.px () m
    have m3:=u5 Px.d (fun _:Unit=>D.bool true) wK x.px () m
    unfold Px.d Er.px at m1 m2 m3
    dsimp only at m1 m2 m3
    have b6:=ih (i+1,nY x.px () m) hi (by dsimp only;omega)
    dsimp only at b6
    unfold Er.px Px.d at b6⊢
    cases hm:f_ (⟨x.f,x.h,x.l,x.n⟩:Px) m with
    |some u=>
     rw[hm]at m1
     simp (disch:=omega) only[aA,hlen,g,enc,c1,c2,h1,h2,ne_eq,not_true_eq_false,D.mks,D.mvs,m1,Option.map_some,Option.getD_some,Option.isSome_some]
    |none=>
     rw[hm]at m1
     simp (disch:=omega) only[aA,hlen,g,enc,c1,c2,h1,h2,ne_eq,not_true_eq_false,D.mks,D.mvs,m1,Option.map_none,Option.getD_none,Option.isSome_none,m2,m3,Int.natCast_add,Int.natCast_one]at b6⊢
     exact b6
  ·simp (disch:=omega) only[aA,hlen,g,enc,c1,h1,ne_eq,not_false_eq_true]
 ·have:i=L.length:=by omega
  subst this
  rw[List.drop_length]
  simp (disch:=omega) only[aA,hlen,dh]
theorem j7:∀ {m:List (Px×Unit)} {L:List Er},dh m L=0→(∀ x,x∈L→co x.f x.h x.l x.n=0∧gd x.vs=true∧f_ x.px m=none)∧L.Pairwise fun a b=>a.px≠b.px
 |m,[],_=>⟨fun x h=>(by cases h),List.Pairwise.nil⟩
 |m,x::r,h=>by
  unfold dh at h
  split at h
  ·rename_i h1;exact absurd h h1
  rename_i h1
  split at h
  ·cases h
  rename_i h2
  split at h
  ·cases h
  rename_i h3
  obtain⟨g1,g2⟩:=j7 h
  have hx:co x.f x.h x.l x.n=0∧gd x.vs=true∧f_ x.px m=none:=⟨Classical.not_not.1 h1,by simpa using h2,by simpa using h3⟩
  have hr:∀ y,y∈r→x.px≠y.px∧f_ y.px m=none:=fun y hy=>by
   have:=(g1 y hy).2.2
   rw[na]at this
   split at this
   ·cases this
   ·rename_i hne;exact⟨Ne.symm hne,this⟩
  exact⟨fun y hy=>by
   rcases List.mem_cons.1 hy with rfl |hy
   ·exact hx
   ·exact⟨(g1 y hy).1,(g1 y hy).2.1,(hr y hy).2⟩,List.pairwise_cons.2 ⟨fun y hy=>(hr y hy).1,g2⟩⟩
theorem rC:∀ {m:List (Px×Unit)} {L:List Er},(∀ x,x∈L→co x.f x.h x.l x.n=0∧gd x.vs=true∧f_ x.px m=none)→(L.Pairwise fun a b=>a.px≠b.px)→dh m L=0
 |m,[],_,_=>rfl
 |m,x::r,h,hp=>by
  obtain⟨h1,h2,h3⟩:=h x (List.mem_cons_self ..)
  unfold dh
  rw[if_neg (by simp[h1]),if_neg (by simp[h2]),if_neg (by simp[h3])]
  refine rC (fun y hy=> ?_) (List.pairwise_cons.1 hp).2
  obtain⟨g1,g2,g3⟩:=h y (List.mem_cons_of_mem _ hy)
  refine⟨g1,g2, ?_⟩
  rw[na,if_neg (Ne.symm ((List.pairwise_cons.1 hp).1 y hy))]
  exact g3
def az (L:List Nr):List Er:=(L.filter fun x=> !x.vs.isEmpty).map fun x=>⟨x.f,x.h,x.l,x.n,false,x.vs⟩
theorem iw (a b:List Nr):az (a++b)=az a++az b:=by simp[az]
theorem mA {nb:Bool} {v:List Int} (h:nb=true→v=[]) (hv:v≠[]) (hl:v.length≤5000):Cl ty tab 52 [.sl 3 nb (iv v)]=some [.ov 3 false (iv v)]:=by
 refine mj 0 _ _ ?_
 unfold jl
 have hn:nb=false:=by cases nb;rfl;exact absurd (h rfl) hv
 have hlen:(iv v).length=v.length:=by simp
 simp (disch:=omega) only[aA,hn,hlen,show (0+v.length)*8≤140737488355328 by omega]
end Go.Proofs.Ytkfnkiejikhglaa.Own
namespace Go.Proofs.Ytkfnkiejikhglaa.Own
open Go Go.Proofs.Ytkfnkiejikhglaa.GD Go.Proofs.Ytkfnkiejikhglaa.GD.Trie Go.Sort
theorem zo (n:Bool) (A B:List D) (n1 n2:Bool) (hA:A.length<65536) (hB:B.length<65536):∃ nb,Cl ty tab 79 [.sl 22 n [.sl 69 n1 A,.sl 69 n2 B]]=some [.ov 69 nb (A++B)]:=by
 have key:∀ nb0,Cl ty tab 99 [.ov 69 true [],.int .i64 ((A.length+B.length:Nat):Int)]=some [.ov 69 nb0 []]→∃ nb,Cl ty tab 79 [.sl 22 n [.sl 69 n1 A,.sl 69 n2 B]]=some [.ov 69 nb (A++B)]:=fun nb0 hg=>by
  refine⟨B.isEmpty&&(A.isEmpty&&nb0), ?_⟩
  refine nS 3 n _ ?_
  unfold bR
  simp only[iter]
  unfold bR.b0
  have e1:((A.length:Nat):Int)+((B.length:Nat):Int)=((A.length+B.length:Nat):Int):=by omega
  simp (disch:=omega) only[aA,List.getD_cons_zero,Int.zero_add,e1,hg,show ((1:Int)).toNat=1 from rfl,show ((0:Int)).toNat=0 from rfl,iter]
  unfold bR.b1
  simp (disch:=omega) only[aA,List.getD_cons_zero,Int.zero_add,show ((1:Int)).toNat=1 from rfl,show ((0:Int)).toNat=0 from rfl,List.length_append]
 refine key (decide (((A.length+B.length:Nat):Int)=0)) ?_
 rw[qo,growSpec]
 rw[if_pos ⟨rfl,by omega,by omega⟩]
theorem wL (L:List Nr) (i:Nat) (hi:i<L.length):az (L.take (i+1))=az (L.take i)++(if L[i].vs.isEmpty then []else [⟨L[i].f,L[i].h,L[i].l,L[i].n,false,L[i].vs⟩]):=by
 rw[List.take_add_one,zq4 hi]
 simp only[Option.toList_some,iw]
 congr 1
 cases h:L[i].vs.isEmpty<;>simp[az,h]
theorem kn (L:List Nr):(az L).length≤L.length:=by simp[az,List.length_filter_le]
theorem Cn (n1 n2:Bool) (A B:List Nr) (hA:∀ x,x∈A→x.eC∧x.vs.length≤5000) (hB:∀ x,x∈B→x.eC∧x.vs.length≤5000) (lA:A.length≤5000) (lB:B.length≤5000):
  Cl ty tab 42 [.agg [.sl 69 n1 (A.map dk),.sl 69 n2 (B.map dk)]]=some [.ov 49 (az (A++B)).isEmpty ((az (A++B)).map aw)]:=by
 obtain⟨k,hk⟩:=cP
 refine uI k _ _ _ _ ?_
 unfold eS
 obtain⟨nb,hc⟩:=zo false (A.map dk) (B.map dk) n1 n2 (by simp;omega) (by simp;omega)
 rw[hc]
 simp only[Option.bind_some]
 rw[←List.map_append]
 have hL:∀ x,x∈A++B→x.eC∧x.vs.length≤5000:=fun x hx=>(List.mem_append.1 hx).elim (hA x) (hB x)
 have hl:(A++B).length≤10000:=by rw[List.length_append];omega
 generalize A++B=L at*
 have hlen:(L.map dk).length=L.length:=by simp
 have:=cS (F:=eS.b0 (Cl ty tab) k [.ov 69 nb (L.map dk)]) L.length (fun i=>[.ov 49 (az (L.take i)).isEmpty ((az (L.take i)).map aw),.int .i64 i,.ov 69 nb (L.map dk)])
  (fun _=>some [.ov 49 (az L).isEmpty ((az L).map aw)]) (fun i hi again ha=> ?_) (fun again=> ?_) k (by omega) 0 (by omega)
 ·exact this
 ·unfold eS.b0
  have g:=bo (f:=dk) hi
  have hx:=hL L[i] (List.getElem_mem hi)
  have hb:=kn (L.take i)
  rw[wL L i hi]at ha
  rw[List.length_take]at hb
  generalize L[i]=x at*
  generalize az (L.take i)=H at*
  have hH:(H.map aw).length=H.length:=by simp
  cases hv:x.vs with
  |nil=>
   rw[hv]at ha
   have e0:(iv ([]:List Int)).length=0:=rfl
   simp only[List.isEmpty_nil,if_true,List.append_nil]at ha
   simp (disch:=omega) only[aA,hlen,g,wJ,hv,e0,Int.natCast_add,Int.natCast_one,Int.natCast_zero,Int.lt_irrefl]at ha⊢
   exact ha
  |cons v vs=>
   have hne:x.vs≠[]:=by rw[hv];simp
   have he:x.vs.isEmpty=false:=by rw[hv];rfl
   have hcl:=mA hx.1.nb hne hx.2
   have e0:(0:Int)<((x.vs.length:Nat):Int):=by rw[hv];simp
   rw[he]at ha
   simp only[Bool.false_eq_true,if_false]at ha
   have e2:∀ z:Er,(H++[z]).isEmpty=false:=fun z=>by simp
   rw[e2,List.map_append,List.map_cons,List.map_nil]at ha
   have e3:(H.length+1)*56≤140737488355328:=by omega
   have f1:=enc.2.2.2.2.2.1 ⟨x.f,x.h,x.l,x.n,false,x.vs⟩
   dsimp only at f1
   simp (disch:=omega) only[aA,hlen,g,wJ,hcl,e0,e3,hH,f1,Int.natCast_add,Int.natCast_one]at ha⊢
   exact ha
 ·unfold eS.b0
  rw[List.take_length]
  simp (disch:=omega) only[aA,hlen]
noncomputable def bV (f:Int) (k:Bs):Pf:=Classical.epsilon fun p:Pf=>p.ok∧p.f=f∧p.bits=k
def ql (f:Int) (k:Bs):Prop:=∃ p:Pf,p.ok∧p.f=f∧p.bits=k
theorem ql.sp {f:Int} {k:Bs} (h:ql f k):(bV f k).ok∧(bV f k).f=f∧(bV f k).bits=k:=Classical.epsilon_spec (p:=fun p:Pf=>p.ok∧p.f=f∧p.bits=k) h
theorem tj {p:Pf} (hp:p.ok):bV p.f p.bits=p:=by
 have h:ql p.f p.bits:=⟨p,hp,rfl,rfl⟩
 exact pX h.sp.1 hp h.sp.2.1 h.sp.2.2
theorem Co {f:Int} {p:Pf} (hp:p.ok) (hf:p.f=f):bV f p.bits=p:=by subst hf;exact tj hp
theorem ql.pre {f:Int} {k t:Bs} (h:ql f k) (ht:t<+:k):ql f t:=by
 obtain⟨p,hp,hf,rfl⟩:=h
 have hl:=ht.length_le
 rw[p.len]at hl
 have hn:=hp.all.2.2.1
 refine⟨p.cut t.length,wC hp.r hp.all.1 hp.all.2.1 (by omega),hf, ?_⟩
 rw[pY hl hn]
 exact (List.prefix_iff_eq_take.1 ht).symm
noncomputable def ge (f:Int) (e:En):Er:=⟨(bV f e.k).f,(bV f e.k).h,(bV f e.k).l,(bV f e.k).n,false,e.v⟩
noncomputable def nd (f:Int) (x:Nd):Nr:=⟨(bV f x.k).f,(bV f x.k).h,(bV f x.k).l,(bV f x.k).n,x.v.isEmpty,x.v,x.c0,x.c1⟩
noncomputable def gf (f:Int) (e:En):D:=aw (ge f e)
noncomputable def iy (f:Int) (x:Nd):D:=dk (nd f x)
def cX {α:Type} (P:α→Bool) (l:List α):Nat:=(l.takeWhile fun x=> !P x).length
theorem xS {α:Type} (P:α→Bool) (l:List α):cX P l≤l.length:=by
 unfold cX
 exact (List.takeWhile_prefix _).length_le
def iU {α:Type} (P:α→Bool) (l:List α):Int:=if cX P l<l.length then (cX P l:Nat)else -1
theorem rD {α:Type} {P:α→Bool} {l:List α} {i:Nat} (hi:i<l.length):(if cX P (l.drop i)<(l.drop i).length then ((i+cX P (l.drop i):Nat):Int)else -1)=if P l[i]=true then (i:Int)else if cX P (l.drop (i+1))<(l.drop (i+1)).length then ((i+1+cX P (l.drop (i+1)):Nat):Int)else -1:=by
 rw[List.drop_eq_getElem_cons hi]
 unfold cX
 rw[List.takeWhile_cons]
 cases h:P l[i]
 ·simp only[Bool.not_false,if_true,List.length_cons,Bool.false_eq_true,if_false]
  generalize ((l.drop (i+1)).takeWhile _).length=c
  generalize (l.drop (i+1)).length=m
  by_cases hc:c<m
  ·rw[if_pos (by omega),if_pos hc];omega
  ·rw[if_neg (by omega),if_neg hc]
 ·simp
  omega
theorem D8 (x:Er) (p T:Pf) (hx:x.f=p.f∧x.h=p.h∧x.l=p.l∧x.n=p.n) (hp:p.ok):Cl ty tab 106 [aw x,.rp [.int .u8 T.f,.int .u64 (T.h:Int),.int .u64 (T.l:Int),.int .i64 (T.n:Int)] 0]=some [.bool (Trie.aJ p.bits T.n)]:=by
 unfold aw
 refine nR 0 _ _ _ _ _ _ _ _ _ _ ?_
 unfold kL
 have h:=oe hp T.n
 obtain⟨e1,e2,e3,e4⟩:=hx
 rw[e1,e2,e3,e4]
 cases hb:Trie.aJ p.bits T.n
 ·rw[hb]at h
  simp (disch:=omega) only[aA,h,bi,Int.reduceEq]
 ·rw[hb]at h
  simp (disch:=omega) only[aA,h,bi]
theorem Cp {f:Int} (nb:Bool) (L:List En) (T:Pf) {m:Nat} (hm:T.n=m) (hL:∀ e,e∈L→ql f e.k) (hl:L.length≤100000):Cl ty tab 66 [.sl 49 nb (L.map (gf f)),.fn 106 [.rp [.int .u8 T.f,.int .u64 (T.h:Int),.int .u64 (T.l:Int),.int .i64 (T.n:Int)] 0]]=
  some [.int .i64 (iU (fun e=>Trie.aJ e.k m) L)]:=by
 subst hm
 obtain⟨k,hk⟩:=cP
 refine gY k _ _ _ _ _ _ ?_
 unfold aV
 have hlen:(L.map (gf f)).length=L.length:=by simp
 have:=cS (F:=aV.b0 (Cl ty tab) k (L.map (gf f)) T.f T.h T.l T.n) L.length (fun i=>[.int .i64 i])
  (fun i=>some [.int .i64 (if cX (fun e:En=>Trie.aJ e.k T.n) (L.drop i)<(L.drop i).length then ((i+cX (fun e:En=>Trie.aJ e.k T.n) (L.drop i):Nat):Int)else -1)]) (fun i hi again ha=> ?_) (fun again=> ?_) k (by omega) 0 (by omega)
 ·rw[List.drop_zero]at this
  simpa[iU]using this
 ·unfold aV.b0
  rw[rD hi]
  have g:(L.map (gf f)).getD i .undef=aw (ge f L[i]):=bo hi
  have hx:=(hL L[i] (List.getElem_mem hi)).sp
  generalize L[i]=e at*
  have hb:=D8 (ge f e) (bV f e.k) T ⟨rfl,rfl,rfl,rfl⟩ hx.1
  rw[hx.2.2]at hb
  cases u7:Trie.aJ e.k T.n
  ·rw[u7]at hb
   simp (disch:=omega) only[aA,hlen,g,enc,hb,Int.natCast_add,Int.natCast_one]at ha⊢
   exact ha
  ·rw[u7]at hb
   simp (disch:=omega) only[aA,hlen,g,enc,hb]
 ·unfold aV.b0
  rw[List.drop_length]
  simp (disch:=omega) only[aA,hlen]
  simp[cX]
end Go.Proofs.Ytkfnkiejikhglaa.Own
namespace Go.Proofs.Ytkfnkiejikhglaa.Own
open Go Go.Proofs.Ytkfnkiejikhglaa.GD Go.Proofs.Ytkfnkiejikhglaa.GD.Trie Go.Sort
theorem tk {lw G:List D} {a:D}:(lw++a::G).getD lw.length .undef=a:=by simp[zq1]
theorem tr {lw G:List D} {a b:D}:(lw++a::G).set lw.length b=lw++b::G:=by simp
theorem D9 {p q:Pf} (hp:p.ok) (hq:q.ok) (hf:p.f=q.f):(decide (p.f=q.f)&&(decide ((p.h:Int)=q.h)&&(decide ((p.l:Int)=q.l)&&decide ((p.n:Int)=q.n))))=decide (p.bits=q.bits):=by
 by_cases h:p.bits=q.bits
 ·have:=pX hp hq hf h
  subst this;simp
 ·have: ¬p=q:=fun hh=>h (by rw[hh])
  rw[decide_eq_false h,Bool.eq_false_iff]
  intro hc
  simp only[zq3,decide_eq_true_eq]at hc
  apply this
  obtain⟨f,h,l,n⟩:=p
  obtain⟨f',h',l',n'⟩:=q
  dsimp only at hc
  obtain⟨h1,h2,h3,h4⟩:=hc
  rw[h1,Int.ofNat_inj.1 h2,Int.ofNat_inj.1 h3,Int.ofNat_inj.1 h4]
theorem Cq (t:Bs) (L:List En):nF t L=L.take (cX (fun e=>Trie.aJ e.k t.length) L)∧sV t L=L.drop (cX (fun e=>Trie.aJ e.k t.length) L):=by
 have h:=xI t L
 have e:cX (fun e=>Trie.aJ e.k t.length) L=(nF t L).length:=rfl
 rw[e]
 generalize nF t L=Z at*
 generalize sV t L=O at*
 subst h
 simp
theorem Ba (e:En) (r:List En):((e::r)[(e::r).length - 1]'(by simp))=r.getLastD e:=by
 rcases List.eq_nil_or_concat r with rfl |⟨r',a,rfl⟩
 ·rfl
 ·rw[List.concat_eq_append,List.getLastD_concat]
  simp
theorem Cr (f:Int) (t:Bs) (v:List Int) (z o:Int):D.agg [.int .u8 (bV f t).f,.int .u64 ((bV f t).h:Int),.int .u64 ((bV f t).l:Int),.int .i64 ((bV f t).n:Int),.sl 3 v.isEmpty (iv v),.int .i64 z,.int .i64 o]=iy f ⟨t,v,z,o⟩:=rfl
theorem qc (f:Int) (t:Bs) (z o:Int):D.agg [.int .u8 (bV f t).f,.int .u64 ((bV f t).h:Int),.int .u64 ((bV f t).l:Int),.int .i64 ((bV f t).n:Int),.sl 3 true [],.int .i64 z,.int .i64 o]=iy f ⟨t,[],z,o⟩:=rfl
theorem tt:(∀ f t v z o,(iy f ⟨t,v,z,o⟩).cell 0= .int .u8 (bV f t).f)∧(∀ f t v z o,(iy f ⟨t,v,z,o⟩).cell 1= .int .u64 ((bV f t).h:Int))∧(∀ f t v z o,(iy f ⟨t,v,z,o⟩).cell 2= .int .u64 ((bV f t).l:Int))∧(∀ f t v z o,(iy f ⟨t,v,z,o⟩).cell 3= .int .i64 ((bV f t).n:Int))∧
  (∀ f t v z o,(iy f ⟨t,v,z,o⟩).cell 4= .sl 3 v.isEmpty (iv v))∧(∀ f t v z o,(iy f ⟨t,v,z,o⟩).cell 5= .int .i64 z)∧(∀ f t v z o,(iy f ⟨t,v,z,o⟩).cell 6= .int .i64 o):=⟨fun _ _ _ _ _=>rfl,fun _ _ _ _ _=>rfl,fun _ _ _ _ _=>rfl,fun _ _ _ _ _=>rfl,fun _ _ _ _ _=>rfl,fun _ _ _ _ _=>rfl,fun _ _ _ _ _=>rfl⟩
theorem FO {f:Int} {nb:Bool} {R:List En} {lw:List D} {t:Bs} {c:Nat} {G1 G2:List D} {z o:Int} (hc:c≤R.length)
  (h1:Cl ty tab 104 [.sl 49 nb ((R.take c).map (gf f)),.ov 69 false (lw++[iy f ⟨t,[],0,0⟩])]=some [.int .i64 z,.ov 69 false ((lw++[iy f ⟨t,[],0,0⟩])++G1)])
  (h2:Cl ty tab 104 [.sl 49 nb ((R.drop c).map (gf f)),.ov 69 false ((lw++[iy f ⟨t,[],0,0⟩])++G1)]=some [.int .i64 o,.ov 69 false (((lw++[iy f ⟨t,[],0,0⟩])++G1)++G2)]):
  bu.j1 (Cl ty tab) 0 nb (R.map (gf f)) lw [(bV f t).d] (c:Int)=some [.int .i64 (lw.length:Nat),.ov 69 false (lw++iy f ⟨t,[],z,o⟩::(G1++G2))]:=by
 unfold bu.j1
 have hlen:(R.map (gf f)).length=R.length:=by simp
 have e1:((R.map (gf f)).drop 0).take (c - 0)=(R.take c).map (gf f):=by rw[List.drop_zero,Nat.sub_zero,List.map_take]
 have e2:((R.map (gf f)).drop c).take (R.length - c)=(R.drop c).map (gf f):=by rw[List.take_of_length_le (by simp),List.map_drop]
 have e3:((lw++[iy f ⟨t,[],0,0⟩])++G1)++G2=lw++iy f ⟨t,[],0,0⟩::(G1++G2):=by simp
 rw[e3]at h2
 have e4:(lw++iy f ⟨t,[],0,0⟩::(G1++G2)).length=lw.length+(G1.length+G2.length+1):=by simp
 simp (disch:=omega) only[aA,hlen,Int.toNat_zero,e1,e2,qc,h1,h2,e4]
 rw[tk,tr]
 simp (disch:=omega) only[aA,tt,qc,List.isEmpty_nil,iv,List.map_nil]
theorem FP {f:Int} {nb:Bool} {e:En} {R:List En} {lw:List D} {t:Bs} {c:Nat} {G1 G2:List D} {z o:Int} {v:List Int} (hc:c≤R.length) (hv:v.isEmpty=false)
  (h1:Cl ty tab 104 [.sl 49 nb ((R.take c).map (gf f)),.ov 69 false (lw++[iy f ⟨t,v,0,0⟩])]=some [.int .i64 z,.ov 69 false ((lw++[iy f ⟨t,v,0,0⟩])++G1)])
  (h2:Cl ty tab 104 [.sl 49 nb ((R.drop c).map (gf f)),.ov 69 false ((lw++[iy f ⟨t,v,0,0⟩])++G1)]=some [.int .i64 o,.ov 69 false (((lw++[iy f ⟨t,v,0,0⟩])++G1)++G2)]):
  bu.j0 (Cl ty tab) 0 nb ((e::R).map (gf f)) lw [(bV f t).d] [.ov 3 false (iv v)] (c:Int)=some [.int .i64 (lw.length:Nat),.ov 69 false (lw++iy f ⟨t,v,z,o⟩::(G1++G2))]:=by
 unfold bu.j0
 have hlen:((e::R).map (gf f)).length=R.length+1:=by simp
 have iY:(R.map (gf f)).length=R.length:=by simp
 have Ez:(((e::R).map (gf f)).drop 1).take (R.length+1 - 1)=R.map (gf f):=by
  show (R.map (gf f)).take R.length=_
  exact List.take_of_length_le (by simp)
 have e1:((R.map (gf f)).drop 0).take (c - 0)=(R.take c).map (gf f):=by rw[List.drop_zero,Nat.sub_zero,List.map_take]
 have e2:((R.map (gf f)).drop c).take (R.length - c)=(R.drop c).map (gf f):=by rw[List.take_of_length_le (by simp),List.map_drop]
 have e3:((lw++[iy f ⟨t,v,0,0⟩])++G1)++G2=lw++iy f ⟨t,v,0,0⟩::(G1++G2):=by simp
 rw[e3]at h2
 have e4:(lw++iy f ⟨t,v,0,0⟩::(G1++G2)).length=lw.length+(G1.length+G2.length+1):=by simp
 have hn':D.agg [.int .u8 (bV f t).f,.int .u64 ((bV f t).h:Int),.int .u64 ((bV f t).l:Int),.int .i64 ((bV f t).n:Int),.sl 3 false (iv v),.int .i64 0,.int .i64 0]=iy f ⟨t,v,0,0⟩:=by rw[←hv];rfl
 have m1:(lw++[iy f ⟨t,[],0,0⟩]).getD lw.length .undef=iy f ⟨t,[],0,0⟩:=tk
 have m2:∀ x,(lw++[iy f ⟨t,[],0,0⟩]).set lw.length x=lw++[x]:=fun x=>tr
 simp (disch:=omega) only[aA,hlen,Int.toNat_zero,Int.toNat_one,Ez,iY,e1,e2,qc,m1,m2,tt,hn',h1,h2,e4]
 rw[tk,tr]
 simp (disch:=omega) only[aA,tt,Cr]
set_option maxHeartbeats 1000000 in
theorem rE {f:Int}:∀ (N:Nat) (L:List En),L.length≤N→qk L→(∀ e,e∈L→ql f e.k)→(∀ e,e∈L→e.v≠[]∧e.v.length≤5000)→∀ (nb nw:Bool) (lw:List D),lw.length+2*L.length≤100000→
  Cl ty tab 104 [.sl 49 nb (L.map (gf f)),.ov 69 nw lw]=some [.int .i64 (ix L lw.length),.ov 69 (nw&&L.isEmpty) (lw++(bC N lw.length L).map (iy f))]
 |N,[],_,_,_,_,nb,nw,lw,_=>by
  refine kM 0 _ _ _ _ ?_
  unfold bu
  rw[cM]
  simp[ix]
 |0,e::r,h,_,_,_,_,_,_,_=>by simp at h
 |N+1,e::r,hN,hs,hk,hv,nb,nw,lw,hl=>by
  have sp:=fj hs
  have IH:= @rE f N
  have hlen:((e::r).map (gf f)).length=r.length+1:=by simp
  have he:=(hk e (List.mem_cons_self ..)).sp
  have vO:=(hk _ (mr e r)).sp
  have MG:ql f (aI e r):=(hk e (List.mem_cons_self ..)).pre (dg _ _)
  have ht:=MG.sp
  have Ip:=A0 he.1 vO.1 (by rw[he.2.1,vO.2.1])
  have Iq:=wE he.1 vO.1
  rw[he.2.2,vO.2.2]at Ip Iq
  have zh:(bV f e.k).cut (hJ e.k (r.getLastD e).k).length=bV f (aI e r):=by
   have h1:=Co (f:=f) Iq.1 he.2.1
   rw[Iq.2]at h1
   exact h1.symm
  rw[zh]at Ip
  have MH:(bV f (aI e r)).n=(aI e r).length:=by rw[←(bV f (aI e r)).len,ht.2.2]
  have hdec:=D9 he.1 ht.1 (by rw[he.2.1,ht.2.1])
  rw[he.2.2,ht.2.2]at hdec
  have g0:((e::r).map (gf f)).getD 0 .undef=aw (ge f e):=rfl
  have g1:((e::r).map (gf f)).getD r.length .undef=aw (ge f (r.getLastD e)):=by
   have:((e::r).map (gf f)).getD ((e::r).length - 1) .undef=gf f ((e::r)[(e::r).length - 1]'(by simp)):=bo (by simp)
   rw[Ba,List.length_cons,Nat.add_sub_cancel]at this
   exact this
  have DR:=hv e (List.mem_cons_self ..)
  have hcl:=mA (nb:=false) (v:=e.v) (by simp) DR.1 DR.2
  have Ir:∀ x,x∈aD e r→ql f x.k:=fun x hx=>hk x (dM hx)
  have hrv:∀ x,x∈aD e r→x.v≠[]∧x.v.length≤5000:=fun x hx=>hv x (dM hx)
  have qs:=sp.vm
  have hzc:=Cq (aI e r) (aD e r)
  simp only[List.length_cons]at hN hl
  have H6:(aD e r).length≤r.length+1:=by unfold aD;split<;>simp
  have hidx:=fun nb=>Cp (f:=f) nb (aD e r) (bV f (aI e r)) MH Ir (by omega)
  have D_:=xS (fun x:En=>Trie.aJ x.k (aI e r).length) (aD e r)
  have c1:=fun nb Is hb=>IH (nF (aI e r) (aD e r)) (by have:=sp.zl;omega) sp.zs (fun x hx=>Ir x (by rw[←qs];exact List.mem_append_left _ hx)) (fun x hx=>hrv x (by rw[←qs];exact List.mem_append_left _ hx)) nb false Is hb
  have c2:=fun nb Is hb=>IH (sV (aI e r) (aD e r)) (by have:=sp.ol;omega) sp.os (fun x hx=>Ir x (by rw[←qs];exact List.mem_append_right _ hx)) (fun x hx=>hrv x (by rw[←qs];exact List.mem_append_right _ hx)) nb false Is hb
  have Fg:∀ b,(bC N b (nF (aI e r) (aD e r))).length≤2*(nF (aI e r) (aD e r)).length - 1:=fun b=>by
   by_cases h0:nF (aI e r) (aD e r)=[]
   ·rw[h0,cM];simp
   ·have:=(jX N b _ sp.zs (by have:=sp.zl;omega) h0).2
    omega
  have GY:(nF (aI e r) (aD e r)).length+(sV (aI e r) (aD e r)).length=(aD e r).length:=by rw[←List.length_append,qs]
  have zg:=fun h=>let t:=sp.two h;And.intro (List.length_pos_iff.2 t.1) (List.length_pos_iff.2 t.2)
  rw[hzc.1]at c1 Fg GY zg
  rw[hzc.2]at c2 GY zg
  have De:bC (N+1) lw.length (e::r)=⟨aI e r,if e.k=aI e r then e.v else [],ix ((aD e r).take (cX (fun x:En=>Trie.aJ x.k (aI e r).length) (aD e r))) (lw.length+1),ix ((aD e r).drop (cX (fun x:En=>Trie.aJ x.k (aI e r).length) (aD e r))) (lw.length+1+(bC N (lw.length+1) ((aD e r).take (cX (fun x:En=>Trie.aJ x.k (aI e r).length) (aD e r)))).length)⟩::
   (bC N (lw.length+1) ((aD e r).take (cX (fun x:En=>Trie.aJ x.k (aI e r).length) (aD e r)))++bC N (lw.length+1+(bC N (lw.length+1) ((aD e r).take (cX (fun x:En=>Trie.aJ x.k (aI e r).length) (aD e r)))).length) ((aD e r).drop (cX (fun x:En=>Trie.aJ x.k (aI e r).length) (aD e r)))):=by
   rw[bC,hzc.1,hzc.2]
  have K7:aI e r=hJ e.k (r.getLastD e).k:=rfl
  rw[De]
  clear De hzc sp IH qs
  have FF:ix (e::r) lw.length=(lw.length:Nat):=rfl
  rw[FF]
  have It:(nw&&(e::r).isEmpty)=false:=by simp
  rw[It]
  generalize hT:bV f (aI e r)=T at*
  have hcell:∀ (c:Nat) (R:List En),(R.map (gf f)).take c=(R.take c).map (gf f)∧(R.map (gf f)).drop c=(R.drop c).map (gf f):=fun c R=>⟨List.map_take.symm,List.map_drop.symm⟩
  refine kM 0 _ _ _ _ ?_
  unfold bu
  have al:(lw.length+1)*72≤140737488355328:=by omega
  have Cs:Cl ty tab 105 [.agg [.int .u8 (ge f e).f,.int .u64 ((ge f e).h:Int),.int .u64 ((ge f e).l:Int),.int .i64 (ge f e).n],.agg [.int .u8 (ge f (r.getLastD e)).f,.int .u64 ((ge f (r.getLastD e)).h:Int),.int .u64 ((ge f (r.getLastD e)).l:Int),.int .i64 (ge f (r.getLastD e)).n]]=some [.agg [.int .u8 T.f,.int .u64 (T.h:Int),.int .u64 (T.l:Int),.int .i64 (T.n:Int)]]:=Ip
  have rF:(decide ((ge f e).f=T.f)&&(decide (((ge f e).h:Int)=T.h)&&(decide (((ge f e).l:Int)=T.l)&&decide ((ge f e).n=T.n))))=decide (e.k=aI e r):=hdec
  have FQ:Cl ty tab 52 [.sl 3 (ge f e).nb (iv (ge f e).vs)]=some [.ov 3 false (iv e.v)]:=hcl
  generalize hR:aD e r=R at*
  by_cases hown:e.k=aI e r
  ·have hrest:r=R:=by rw[←hR];unfold aD;exact (if_pos hown).symm
   subst hrest
   rw[if_pos hown]
   rw[decide_eq_true hown]at rF
   have Ez:(((e::r).map (gf f)).drop 1).take r.length=r.map (gf f):=by
    show (r.map (gf f)).take r.length=_
    exact List.take_of_length_le (by simp)
   have iY:(r.map (gf f)).length=r.length:=by simp
   have Iu:e.v.isEmpty=false:=by simpa using DR.1
   generalize hc:cX (fun x:En=>Trie.aJ x.k (aI e r).length) r=c at*
   have hlt:(r.take c).length+(r.drop c).length=r.length:=GY
   have d1:=c1 nb (lw++[iy f ⟨aI e r,e.v,0,0⟩]) (by rw[List.length_append,List.length_singleton];omega)
   have hg:=Fg (lw.length+1)
   have GR:((r.take c).length)≤r.length:=by omega
   rw[List.length_append,List.length_singleton]at d1
   have d2:=c2 nb ((lw++[iy f ⟨aI e r,e.v,0,0⟩])++(bC N (lw.length+1) (r.take c)).map (iy f)) (by rw[List.length_append,List.length_append,List.length_singleton,List.length_map];omega)
   rw[List.length_append,List.length_append,List.length_singleton,List.length_map]at d2
   have hj:=FP (f:=f) (e:=e) (t:=aI e r) D_ Iu d1 d2
   rw[hT]at hj
   rw[←List.map_append,←List.map_cons]at hj
   have hi:=hidx nb
   have wM:iU (fun x:En=>Trie.aJ x.k (aI e r).length) r=if c<r.length then ((c:Nat):Int)else -1:=by unfold iU;rw[hc]
   rw[wM]at hi
   by_cases hcl2:c<r.length
   ·rw[if_pos hcl2]at hi
    simp (disch:=omega) only[aA,hlen,g0,g1,enc,Cs,al,rF,Nat.add_sub_cancel,Int.toNat_one,Ez,iY,hi,FQ]
    exact hj
   ·rw[if_neg hcl2]at hi
    have:c=r.length:=by omega
    rw[this]at hj⊢
    simp (disch:=omega) only[aA,hlen,g0,g1,enc,Cs,al,rF,Nat.add_sub_cancel,Int.toNat_one,Ez,iY,hi,FQ,Int.reduceNeg,Int.reduceLT]
    exact hj
  ·have hrest:e::r=R:=by rw[←hR];unfold aD;exact (if_neg hown).symm
   subst hrest
   rw[if_neg hown]
   rw[decide_eq_false hown]at rF
   generalize hc:cX (fun x:En=>Trie.aJ x.k (aI e r).length) (e::r)=c at*
   have hlt:((e::r).take c).length+((e::r).drop c).length=(e::r).length:=GY
   have hl1:(e::r).length=r.length+1:=rfl
   have ht2:=zg hown
   have d1:=c1 nb (lw++[iy f ⟨aI e r,[],0,0⟩]) (by rw[List.length_append,List.length_singleton];omega)
   have hg:=Fg (lw.length+1)
   rw[List.length_append,List.length_singleton]at d1
   have d2:=c2 nb ((lw++[iy f ⟨aI e r,[],0,0⟩])++(bC N (lw.length+1) ((e::r).take c)).map (iy f)) (by rw[List.length_append,List.length_append,List.length_singleton,List.length_map];omega)
   rw[List.length_append,List.length_append,List.length_singleton,List.length_map]at d2
   have hj:=FO (f:=f) (t:=aI e r) D_ d1 d2
   rw[hT]at hj
   rw[←List.map_append,←List.map_cons (f:=iy f)]at hj
   have hi:=hidx nb
   have wM:iU (fun x:En=>Trie.aJ x.k (aI e r).length) (e::r)=if c<r.length+1 then ((c:Nat):Int)else -1:=by unfold iU;rw[hc];rfl
   rw[wM]at hi
   by_cases hcl2:c<r.length+1
   ·rw[if_pos hcl2]at hi
    simp (disch:=omega) only[aA,hlen,g0,g1,enc,Cs,al,rF,Nat.add_sub_cancel,hi]
    exact hj
   ·rw[if_neg hcl2]at hi
    have:c=r.length+1:=by omega
    rw[this]at hj⊢
    simp (disch:=omega) only[aA,hlen,g0,g1,enc,Cs,al,rF,Nat.add_sub_cancel,hi,Int.reduceNeg,Int.reduceLT]
    exact hj
end Go.Proofs.Ytkfnkiejikhglaa.Own
namespace Go.Proofs.Ytkfnkiejikhglaa.Own
open Go Go.Proofs.Ytkfnkiejikhglaa.GD Go.Proofs.Ytkfnkiejikhglaa.GD.Trie Go.Sort
theorem kj {f:Int} (L:List En) (hs:qk L) (hk:∀ e,e∈L→ql f e.k) (hv:∀ e,e∈L→e.v≠[]∧e.v.length≤5000) (hl:L.length≤20000) (nb:Bool):
  Cl ty tab 83 [.sl 49 nb (L.map (gf f))]=some [.ov 69 L.isEmpty ((jW L).map (iy f))]:=by
 refine uG 0 _ _ ?_
 unfold rg
 have h:=rE L.length L (Nat.le_refl _) hs hk hv nb true [] (by rw[List.length_nil];omega)
 simp (disch:=omega) only[aA,h]
 rfl
structure Er.vd (x:Er):Prop where
 r:fE x.h x.l
 c:co x.f x.h x.l x.n=0
 nb:x.nb=false
 vs:x.vs≠[]∧x.vs.length≤5000
def Er.pf (x:Er):Pf:=⟨x.f,x.h,x.l,x.n.toNat⟩
def Er.en (x:Er):En:=⟨x.pf.bits,x.vs⟩
theorem Er.vd.n0 {x:Er} (h:x.vd):x.n=(x.pf.n:Nat):=by
 have:=h.c
 unfold co at this
 split at this
 ·cases this
 ·split at this
  ·rename_i hc
   show x.n=(x.n.toNat:Nat)
   omega
  ·cases this
theorem Er.vd.ok {x:Er} (h:x.vd):x.pf.ok:=by
 refine⟨h.r, ?_⟩
 show co x.f x.h x.l (x.pf.n:Nat)=0
 rw[←h.n0]
 exact h.c
theorem Er.vd.FR {x:Er} (h:x.vd):aw x=gf x.f x.en:=by
 unfold gf ge Er.en
 dsimp only
 rw[show x.f=x.pf.f from rfl,tj h.ok]
 have:=h.n0
 have h2:=h.nb
 obtain⟨f,hh,l,n,nb,vs⟩:=x
 dsimp only at this h2
 subst h2
 simp only[Er.pf]at this⊢
 rw[←this]
theorem Er.vd.MI {x:Er} (h:x.vd):ql x.f x.en.k:=⟨x.pf,h.ok,rfl,rfl⟩
theorem Er.vd.Da {x:Er} (h:x.vd):x.f=4∨x.f=6:=by
 rcases h.ok.Da with⟨h,_⟩ |⟨h,_⟩
 ·exact .inl h
 ·exact .inr h
theorem qd {x y:Er} (hx:x.vd) (hy:y.vd):ax x y=true↔x.f<y.f∨(x.f=y.f∧gk x.en.k y.en.k=true):=by
 unfold ax tf
 rw[hx.n0,hy.n0]
 have:=Ca hx.ok hy.ok
 rw[decide_eq_true_eq]
 rw[show uU x.f x.h x.l (x.pf.n:Nat) y.f y.h y.l (y.pf.n:Nat)=AY x.pf y.pf from this]
 exact Cb
theorem Ea {x y:Er} (hx:x.vd) (hy:y.vd) (hf:x.f=y.f) (hk:x.en.k=y.en.k):x.px=y.px:=by
 have h1:=pX hx.ok hy.ok hf hk
 have h2:x.h=y.h:=congrArg Pf.h h1
 have h3:x.l=y.l:=congrArg Pf.l h1
 have h4:x.n=y.n:=by rw[hx.n0,hy.n0,h1]
 unfold Er.px
 rw[hf,h2,h3,h4]
def bh (xs:List Er):List Er:=(sort ax xs.toArray).toList
theorem b9 (xs:List Er):(bh xs).Perm xs:=(u0 xs).1
theorem gg {xs:List Er} (h:∀ x,x∈xs→x.vd) (hd:xs.Pairwise fun a b=>a.px≠b.px):(bh xs).Pairwise fun a b=>ax a b=true:=by
 have h1:=(u0 xs).2
 have h2:(bh xs).Pairwise fun a b=>a.px≠b.px:=((b9 xs).pairwise_iff (fun h=>Ne.symm h)).2 hd
 have h3:∀ x,x∈bh xs→x.vd:=fun x hx=>h x ((b9 xs).mem_iff.1 hx)
 have h4:=List.Pairwise.and h1 h2
 refine h4.imp_of_mem fun {a b} ha hb hD=> ?_
 have va:=h3 a ha
 have vb:=h3 b hb
 rw[qd va vb]
 have hn: ¬(b.f<a.f∨(b.f=a.f∧gk b.en.k a.en.k=true)):=by rw[←qd vb va,hD.1];simp
 by_cases hf:a.f=b.f
 ·refine .inr ⟨hf, ?_⟩
  rcases sT a.en.k b.en.k with g |g |g
  ·exact g
  ·exact absurd (Ea va vb hf g) hD.2
  ·exact absurd (.inr ⟨hf.symm,g⟩) hn
 ·left;omega
def bF (f:Int) (xs:List Er):List En:=((bh xs).filter fun x=>decide (x.f=f)).map Er.en
theorem iV {f:Int} {xs:List Er} (h:∀ x,x∈xs→x.vd) (hd:xs.Pairwise fun a b=>a.px≠b.px):qk (bF f xs)∧(∀ e,e∈bF f xs→ql f e.k)∧(∀ e,e∈bF f xs→e.v≠[]∧e.v.length≤5000)∧(bF f xs).length≤xs.length:=by
 have h3:∀ x,x∈bh xs→x.vd:=fun x hx=>h x ((b9 xs).mem_iff.1 hx)
 refine⟨?_,fun e he=> ?_,fun e he=> ?_, ?_⟩
 ·unfold bF qk
  rw[List.pairwise_map]
  refine ((gg h hd).filter _).imp_of_mem fun {a b} ha hb hD=> ?_
  rw[List.mem_filter]at ha hb
  have e1:a.f=f:=by simpa using ha.2
  have e2:b.f=f:=by simpa using hb.2
  rcases (qd (h3 a ha.1) (h3 b hb.1)).1 hD with g |g
  ·omega
  ·exact g.2
 ·obtain⟨x,hx,rfl⟩:=List.mem_map.1 he
  rw[List.mem_filter]at hx
  have e1:x.f=f:=by simpa using hx.2
  have:=(h3 x hx.1).MI
  rwa [e1]at this
 ·obtain⟨x,hx,rfl⟩:=List.mem_map.1 he
  rw[List.mem_filter]at hx
  exact (h3 x hx.1).vs
 ·unfold bF
  rw[List.length_map]
  have:=List.length_filter_le (fun x:Er=>decide (x.f=f)) (bh xs)
  rw[(b9 xs).length_eq]at this
  exact this
theorem Ct (x:Er):Cl ty tab 82 [aw x]=some [.bool (decide (x.f=6))]:=by
 unfold aw
 refine pH 0 _ _ _ _ _ _ ?_
 unfold mi
 simp (disch:=omega) only[aA]
theorem Cu (nb:Bool) (L:List Er) (hl:L.length≤100000):Cl ty tab 66 [.sl 49 nb (L.map aw),.fn 82 []]=
  some [.int .i64 (iU (fun x=>decide (x.f=6)) L)]:=by
 obtain⟨k,hk⟩:=cP
 refine jn k _ _ ?_
 unfold bf
 have hlen:(L.map aw).length=L.length:=by simp
 have:=cS (F:=bf.b0 (Cl ty tab) k (L.map aw)) L.length (fun i=>[.int .i64 i])
  (fun i=>some [.int .i64 (if cX (fun x:Er=>decide (x.f=6)) (L.drop i)<(L.drop i).length then ((i+cX (fun x:Er=>decide (x.f=6)) (L.drop i):Nat):Int)else -1)]) (fun i hi again ha=> ?_) (fun again=> ?_) k (by omega) 0 (by omega)
 ·rw[List.drop_zero]at this
  simpa[iU]using this
 ·unfold bf.b0
  rw[rD hi]
  have g:(L.map aw).getD i .undef=aw L[i]:=bo hi
  generalize L[i]=x at*
  have hb:=Ct x
  by_cases u7:x.f=6
  ·rw[decide_eq_true u7]at hb⊢
   simp (disch:=omega) only[aA,hlen,g,enc,hb]
  ·rw[decide_eq_false u7]at hb⊢
   simp (disch:=omega) only[aA,hlen,g,enc,hb,Int.natCast_add,Int.natCast_one]at ha⊢
   exact ha
 ·unfold bf.b0
  rw[List.drop_length]
  simp (disch:=omega) only[aA,hlen]
  simp[cX]
theorem zq (nb:Bool) (xs:List Er) (hnb:nb=true→xs=[]) (hl:xs.length≤20000):∃ nb',Cl ty tab 80 [.sl 49 nb (xs.map aw),.fn 81 []]=some [.ov 49 nb' ((bh xs).map aw)]:=by
 have hlen:(xs.map aw).length=xs.length:=by simp
 have hc:∃ nb',Cl ty tab 100 [.sl 49 nb (xs.map aw)]=some [.ov 49 nb' (xs.map aw)]:=by
  cases nb
  ·refine⟨false, ?_⟩
   refine fY 0 _ _ ?_
   unfold eO
   simp (disch:=omega) only[aA,hlen,show (0+xs.length)*56≤140737488355328 by omega]
  ·refine⟨true, ?_⟩
   rw[hnb rfl]
   refine fY 0 _ _ ?_
   unfold eO
   simp (disch:=omega) only[aA]
   rfl
 obtain⟨nb',hc⟩:=hc
 refine⟨nb', ?_⟩
 refine qr 0 _ _ ?_
 unfold nD
 have hs:=Cm nb' xs (by omega)
 simp (disch:=omega) only[aA,hc,hs]
 rfl
theorem xT {L:List Er} (h:∀ x,x∈L→x.vd) (hs:L.Pairwise fun a b=>ax a b=true):L.take (cX (fun x:Er=>decide (x.f=6)) L)=L.filter (fun x=>decide (x.f=4))∧L.drop (cX (fun x:Er=>decide (x.f=6)) L)=L.filter fun x=>decide (x.f=6):=by
 induction L with
 |nil=>simp
 |cons a L ih=>
  obtain⟨h1,h2⟩:=List.pairwise_cons.1 hs
  have va:=h a (List.mem_cons_self ..)
  by_cases ha:a.f=6
  ·have hall:∀ x,x∈L→x.f=6:=fun x hx=>by
    have vx:=h x (List.mem_cons_of_mem _ hx)
    rcases (qd va vx).1 (h1 x hx)with g |g
    ·rcases vx.Da with e |e<;>omega
    ·omega
   have e0:cX (fun x:Er=>decide (x.f=6)) (a::L)=0:=by simp[cX,ha]
   rw[e0]
   constructor
   ·rw[List.take_zero]
    exact (gR fun x hx=>by
     rcases List.mem_cons.1 hx with rfl |hx
     ·simp[ha]
     ·simp[hall x hx]).symm
   ·rw[List.drop_zero]
    exact (List.filter_eq_self.2 fun x hx=>by
     rcases List.mem_cons.1 hx with rfl |hx
     ·simp[ha]
     ·simp[hall x hx]).symm
  ·have h4:a.f=4:=by rcases va.Da with e |e;exact e;exact absurd e ha
   obtain⟨i1,i2⟩:=ih (fun x hx=>h x (List.mem_cons_of_mem _ hx)) h2
   have e0:cX (fun x:Er=>decide (x.f=6)) (a::L)=cX (fun x:Er=>decide (x.f=6)) L+1:=by simp[cX,ha]
   rw[e0,List.take_succ_cons,List.drop_succ_cons,i1,i2,List.filter_cons,List.filter_cons,if_pos (by simp[h4]),if_neg (by simp[ha])]
   exact⟨rfl,rfl⟩
theorem xU {f:Int} {L:List Er} (h:∀ x,x∈L→x.vd):(L.filter fun x=>decide (x.f=f)).map aw=((L.filter fun x=>decide (x.f=f)).map Er.en).map (gf f):=by
 rw[List.map_map]
 refine List.map_congr_left fun x hx=> ?_
 rw[List.mem_filter]at hx
 have e1:x.f=f:=by simpa using hx.2
 have:=(h x hx.1).FR
 rw[this,e1]
 rfl
noncomputable def iW (f:Int) (xs:List Er):D:= .sl 69 (bF f xs).isEmpty ((jW (bF f xs)).map (iy f))
theorem u9 (nb:Bool) (xs:List Er) (hnb:nb=true→xs=[]) (hl:xs.length≤20000) (h:∀ x,x∈xs→x.vd) (hd:xs.Pairwise fun a b=>a.px≠b.px):
  Cl ty tab 46 [.sl 49 nb (xs.map aw)]=some [.agg [iW 4 xs,iW 6 xs]]:=by
 obtain⟨nb',hs⟩:=zq nb xs hnb hl
 refine sJ 0 _ _ ?_
 unfold pK
 have h3:∀ x,x∈bh xs→x.vd:=fun x hx=>h x ((b9 xs).mem_iff.1 hx)
 have G4:=xT h3 (gg h hd)
 have EA:(bh xs).length=xs.length:=(b9 xs).length_eq
 have hi:=Cu nb' (bh xs) (by omega)
 have D_:=xS (fun x:Er=>decide (x.f=6)) (bh xs)
 unfold iU at hi
 have g4:=iV (f:=4) h hd
 have g6:=iV (f:=6) h hd
 have o4:=kj (bF 4 xs) g4.1 g4.2.1 g4.2.2.1 (by omega) nb'
 have o6:=kj (bF 6 xs) g6.1 g6.2.1 g6.2.2.1 (by omega) nb'
 have m4:=xU (f:=4) h3
 have m6:=xU (f:=6) h3
 rw[←G4.1]at m4
 rw[←G4.2]at m6
 have f4:bF 4 xs=((bh xs).take (cX (fun x:Er=>decide (x.f=6)) (bh xs))).map Er.en:=by unfold bF;rw[G4.1]
 have f6:bF 6 xs=((bh xs).drop (cX (fun x:Er=>decide (x.f=6)) (bh xs))).map Er.en:=by unfold bF;rw[G4.2]
 rw[←f4]at m4
 rw[←f6]at m6
 rw[←m4]at o4
 rw[←m6]at o6
 unfold iW
 generalize hc:cX (fun x:Er=>decide (x.f=6)) (bh xs)=c at*
 have hlen:((bh xs).map aw).length=(bh xs).length:=by simp
 have t4:(((bh xs).map aw).drop 0).take (c - 0)=((bh xs).take c).map aw:=by rw[List.drop_zero,Nat.sub_zero,List.map_take]
 have t6:(((bh xs).map aw).drop c).take ((bh xs).length - c)=((bh xs).drop c).map aw:=by rw[List.take_of_length_le (by simp),List.map_drop]
 by_cases hcl:c<(bh xs).length
 ·rw[if_pos hcl]at hi
  simp (disch:=omega) only[aA,hs,hi,hlen,Int.toNat_zero,t4,t6,o4,o6]
 ·rw[if_neg hcl]at hi
  have hce:c=(bh xs).length:=by omega
  rw[hce]at t4 t6 o4 o6
  simp (disch:=omega) only[aA,hs,hi,hlen,Int.toNat_zero,Int.reduceNeg,Int.reduceLT,t4,t6,o4,o6]
end Go.Proofs.Ytkfnkiejikhglaa.Own
namespace Go.Proofs.Ytkfnkiejikhglaa.Own
open Go Go.Proofs.Ytkfnkiejikhglaa.GD Go.Proofs.Ytkfnkiejikhglaa.GD.Trie Go.Sort
def Nr.core (x:Nr):Px×List Int×Int×Int:=(⟨x.f,x.h,x.l,x.n⟩,x.vs,x.c0,x.c1)
theorem tu {v:List Int} {i:Nat} (h:i<v.length):(iv v).getD i .undef= .int .i64 v[i]:=bo h
theorem ou {α:Type} [DecidableEq α] {a b:List α} {i:Nat} (ha:i<a.length) (hb:i<b.length):decide (a.drop i=b.drop i)=(decide (a[i]=b[i])&&decide (a.drop (i+1)=b.drop (i+1))):=by
 rw[←Bool.decide_and]
 exact decide_eq_decide.2 (by rw[List.drop_eq_getElem_cons ha,List.drop_eq_getElem_cons hb,List.cons.injEq])
theorem Bb (n1 n2:Bool) (a b:List Int) (hl:a.length≤9223372036854775807):Cl ty tab 84 [.sl 3 n1 (iv a),.sl 3 n2 (iv b)]=some [.bool (decide (a=b))]:=by
 obtain⟨k,hk⟩:=cP
 refine pM k _ _ _ _ ?_
 unfold cB
 have h1:(iv a).length=a.length:=by simp
 have h2:(iv b).length=b.length:=by simp
 by_cases he:a.length=b.length
 ·have:=cS (F:=cB.b0 (Cl ty tab) k (iv a) (iv b)) a.length (fun i=>[.int .i64 i]) (fun i=>some [.bool (decide (a.drop i=b.drop i))]) (fun i hi again ha=> ?_) (fun again=> ?_) k (by omega) 0 (by omega)
  ·rw[List.drop_zero,List.drop_zero]at this
   simp (disch:=omega) only[aA,h1,h2,he,ne_eq,not_true_eq_false]
   simpa using this
  ·unfold cB.b0
   rw[ou hi (by omega)]
   have g1:=tu hi
   have g2:=tu (show i<b.length by omega)
   by_cases hx:a[i]=b[i]
   ·have hlt:(i:Int)<((b.length:Nat):Int):=by omega
    simp (disch:=omega) only[aA,h1,h2,g1,g2,hx,ne_eq,not_true_eq_false,Int.natCast_add,Int.natCast_one]at ha⊢
    exact ha
   ·simp (disch:=omega) only[aA,h1,h2,g1,g2,hx,ne_eq,not_false_eq_true]
  ·unfold cB.b0
   have:b.drop a.length=[]:=List.drop_eq_nil_of_le (by omega)
   rw[List.drop_length,this]
   simp (disch:=omega) only[aA,h1,h2]
 ·have hne: ¬a=b:=fun h=>he (by rw[h])
  have: ¬((a.length:Nat):Int)=((b.length:Nat):Int):=by omega
  simp (disch:=omega) only[aA,h1,h2,this,hne,ne_eq,not_false_eq_true]
theorem Cv (x y:Nr) (hl:x.vs.length≤9223372036854775807):Cl ty tab 48 [dk x,dk y]=some [.bool (decide (x.core=y.core))]:=by
 have:=nT 0 (dk x) (dk y) (r:=[.bool (decide (x.core=y.core))]) ?_
 ·exact this
 unfold kN Nr.core
 have he:=Bb x.nb y.nb x.vs y.vs hl
 by_cases h1:x.f=y.f
 ·by_cases h2:x.h=y.h
  ·by_cases h3:x.l=y.l
   ·by_cases h4:x.n=y.n
    ·by_cases h5:x.c0=y.c0
     ·by_cases h6:x.c1=y.c1
      ·simp (disch:=omega) only[aA,wJ,h1,h2,h3,h4,h5,h6,he]
       simp
      ·simp (disch:=omega) only[aA,wJ,h1,h2,h3,h4,h5,h6,he]
       simp[h6]
     ·simp (disch:=omega) only[aA,wJ,h1,h2,h3,h4,h5,he]
      simp[h5]
    ·simp (disch:=omega) only[aA,wJ,h1,h2,h3,h4,he]
     simp[h4]
   ·have: ¬(x.l:Int)=y.l:=by omega
    simp (disch:=omega) only[aA,wJ,h1,h2,this,he]
    simp[h3]
  ·have: ¬(x.h:Int)=y.h:=by omega
   simp (disch:=omega) only[aA,wJ,h1,this,he]
   simp[h2]
 ·simp (disch:=omega) only[aA,wJ,h1,he]
  simp[h1]
theorem wN (x:Nr):D.agg (bK ks0 (dk x) 0)=dk x:=rfl
theorem Bc (n1 n2:Bool) (a b:List Nr) (hl:a.length≤9223372036854775807) (hv:∀ x,x∈a→x.vs.length≤5000):Cl ty tab 47 [.sl 69 n1 (a.map dk),.sl 69 n2 (b.map dk),.fn 48 []]=some [.bool (decide (a.map Nr.core=b.map Nr.core))]:=by
 obtain⟨k,hk⟩:=cP
 refine lk k _ _ _ _ ?_
 unfold bE
 have h1:(a.map dk).length=a.length:=by simp
 have h2:(b.map dk).length=b.length:=by simp
 by_cases he:a.length=b.length
 ·have:=cS (F:=bE.b0 (Cl ty tab) k (a.map dk) (b.map dk)) a.length (fun i=>[.int .i64 i]) (fun i=>some [.bool (decide ((a.map Nr.core).drop i=(b.map Nr.core).drop i))]) (fun i hi again ha=> ?_) (fun again=> ?_) k (by omega) 0 (by omega)
  ·rw[List.drop_zero,List.drop_zero]at this
   simp (disch:=omega) only[aA,h1,h2,he,ne_eq,not_true_eq_false]
   simpa using this
  ·unfold bE.b0
   rw[ou (by simpa using hi) (by simpa using (by omega:i<b.length))]
   rw[List.getElem_map,List.getElem_map]
   have K8:=hv a[i] (List.getElem_mem hi)
   have g1:(a.map dk).getD i .undef=dk a[i]:=bo hi
   have g2:(b.map dk).getD i .undef=dk b[i]:=bo (by omega)
   have hs:=Cv a[i] b[i] (by omega)
   have hlt:(i:Int)<((b.length:Nat):Int):=by omega
   have iE:(i:Int)<((a.length:Nat):Int):=by omega
   generalize a[i]=x at*
   generalize b[i]=y at*
   by_cases hx:x.core=y.core
   ·rw[decide_eq_true hx]at hs⊢
    simp (disch:=omega) only[aA,h1,h2,g1,g2,wN,hs,Int.natCast_add,Int.natCast_one]at ha⊢
    exact ha
   ·rw[decide_eq_false hx]at hs⊢
    simp (disch:=omega) only[aA,h1,h2,g1,g2,wN,hs]
  ·unfold bE.b0
   have e1:(a.map Nr.core).drop a.length=[]:=List.drop_eq_nil_of_le (by simp)
   have e2:(b.map Nr.core).drop a.length=[]:=List.drop_eq_nil_of_le (by simp;omega)
   rw[e1,e2]
   simp (disch:=omega) only[aA,h1,h2]
 ·have hne: ¬a.map Nr.core=b.map Nr.core:=fun h=>he (by have:=congrArg List.length h;simpa using this)
  have: ¬((a.length:Nat):Int)=((b.length:Nat):Int):=by omega
  simp (disch:=omega) only[aA,h1,h2,this,hne,ne_eq,not_false_eq_true]
noncomputable def aK (f:Int) (xs:List Er):List Nr:=(jW (bF f xs)).map (nd f)
theorem d7 (f:Int) (xs:List Er):iW f xs= .sl 69 (bF f xs).isEmpty ((aK f xs).map dk):=by
 unfold iW aK iy
 rw[List.map_map]
 rfl
structure u_ (A B:List Nr):Prop where
 a:A.length≤4000
 b:B.length≤4000
 c:dh [] (az (A++B))=0
 ga:A.map Nr.core=(aK 4 (az (A++B))).map Nr.core
 gb:B.map Nr.core=(aK 6 (az (A++B))).map Nr.core
open Classical in
noncomputable def lr (A B:List Nr):Int:=if 4000<A.length∨4000<B.length then 4 else if u_ A B then 0 else 8
theorem zr {v:List Int} (h:gd v=true):v≠[]∧v.length≤4000:=by
 unfold gd at h
 simp only[zq3,Bool.not_eq_true',List.isEmpty_eq_false_iff,decide_eq_true_eq]at h
 exact⟨h.1,h.2.1⟩
theorem xV {xs:List Er} (hg:∀ x,x∈xs→x.eC) (h:dh [] xs=0):(∀ x,x∈xs→x.vd)∧xs.Pairwise fun a b=>a.px≠b.px:=by
 obtain⟨h1,h2⟩:=j7 h
 refine⟨fun x hx=> ?_,h2⟩
 obtain⟨c1,c2,_⟩:=h1 x hx
 have hv:=zr c2
 refine⟨(hg x hx).r,c1, ?_,hv.1,by omega⟩
 cases hn:x.nb
 ·rfl
 ·exact absurd ((hg x hx).nb hn) hv.1
theorem rG {L:List Nr} (h:∀ x,x∈L→x.eC):∀ x,x∈az L→x.eC:=by
 intro x hx
 obtain⟨y,hy,rfl⟩:=List.mem_map.1 hx
 rw[List.mem_filter]at hy
 exact⟨(h y hy.1).r,fun h=>by cases h⟩
theorem zt (n1 n2:Bool) (A B:List Nr) (hA:∀ x,x∈A→x.eC∧x.vs.length≤5000) (hB:∀ x,x∈B→x.eC∧x.vs.length≤5000) (lA:A.length≤5000) (lB:B.length≤5000):
  Cl ty tab 18 [.agg [.sl 69 n1 (A.map dk),.sl 69 n2 (B.map dk)]]=some [.int .i64 (lr A B)]:=by
 refine sL 0 _ _ _ _ ?_
 unfold pN lr
 have h1:(A.map dk).length=A.length:=by simp
 have h2:(B.map dk).length=B.length:=by simp
 by_cases l1:4000<A.length
 ·have:(4000:Int)<((A.length:Nat):Int):=by omega
  rw[if_pos (.inl l1)]
  simp (disch:=omega) only[aA,h1,this]
 by_cases l2:4000<B.length
 ·have e1: ¬(4000:Int)<((A.length:Nat):Int):=by omega
  have e2:(4000:Int)<((B.length:Nat):Int):=by omega
  rw[if_pos (.inr l2)]
  simp (disch:=omega) only[aA,h1,h2,e1,e2]
 rw[if_neg (by omega)]
 have e1: ¬(4000:Int)<((A.length:Nat):Int):=by omega
 have e2: ¬(4000:Int)<((B.length:Nat):Int):=by omega
 have hh:=Cn n1 n2 A B hA hB lA lB
 have vi:=rG (L:=A++B) (fun x hx=>(List.mem_append.1 hx).elim (fun h=>(hA x h).1) fun h=>(hB x h).1)
 have MJ:=kn (A++B)
 rw[List.length_append]at MJ
 have hc:=u6 (az (A++B)).isEmpty (az (A++B)) vi (by omega)
 have xW:u_ A B→dh [] (az (A++B))=0:=fun h=>h.c
 by_cases hz:dh [] (az (A++B))=0
 ·obtain⟨v1,v2⟩:=xV vi hz
  have hp:=u9 (az (A++B)).isEmpty (az (A++B)) (fun h=>by simpa using h) (by omega) v1 v2
  rw[d7,d7]at hp
  have q1:=Bc n1 (bF 4 (az (A++B))).isEmpty A (aK 4 (az (A++B))) (by omega) (fun x hx=>(hA x hx).2)
  have q2:=Bc n2 (bF 6 (az (A++B))).isEmpty B (aK 6 (az (A++B))) (by omega) (fun x hx=>(hB x hx).2)
  rw[hz]at hc
  by_cases c1:A.map Nr.core=(aK 4 (az (A++B))).map Nr.core
  ·rw[decide_eq_true c1]at q1
   by_cases c2:B.map Nr.core=(aK 6 (az (A++B))).map Nr.core
   ·rw[decide_eq_true c2]at q2
    rw[if_pos ⟨by omega,by omega,hz,c1,c2⟩]
    simp (disch:=omega) only[aA,h1,h2,e1,e2,hh,hc,hp,q1,q2,ne_eq,not_true_eq_false]
   ·rw[decide_eq_false c2]at q2
    rw[if_neg fun h=>c2 h.gb]
    simp (disch:=omega) only[aA,h1,h2,e1,e2,hh,hc,hp,q1,q2,ne_eq,not_true_eq_false]
  ·rw[decide_eq_false c1]at q1
   rw[if_neg fun h=>c1 h.ga]
   simp (disch:=omega) only[aA,h1,h2,e1,e2,hh,hc,hp,q1,ne_eq,not_true_eq_false]
 ·rw[if_neg fun h=>hz h.c]
  simp (disch:=omega) only[aA,h1,h2,e1,e2,hh,hc,hz,ne_eq,not_false_eq_true]
structure K9 (A:List Nr):Prop where
 l:A.length≤60∨(4000<A.length∧A.length≤4010)
 v:∀ x,x∈A→x.vs.length≤100
end Go.Proofs.Ytkfnkiejikhglaa.Own
namespace Go.Proofs.Ytkfnkiejikhglaa.Own
open Go Go.Proofs.Ytkfnkiejikhglaa.GD Go.Proofs.Ytkfnkiejikhglaa.GD.Trie Go.Sort
structure Cw (f:Int) (x:Nr) (g:Nd):Prop where
 fm:x.f=(bV f g.k).f
 h:x.h=(bV f g.k).h
 l:x.l=(bV f g.k).l
 n:x.n=((bV f g.k).n:Nat)
 vs:x.vs=g.v
 c0:x.c0=g.c0
 c1:x.c1=g.c1
theorem FS {f:Int} {A:List Nr} {G:List Nd} (h:A.map Nr.core=(G.map (nd f)).map Nr.core):A.length=G.length∧∀ (i:Nat) (x:Nr) (g:Nd),A[i]? =some x→G[i]? =some g→Cw f x g:=by
 refine⟨by have:=congrArg List.length h;simpa using this,fun i x g hx hg=> ?_⟩
 have h1:(A.map Nr.core)[i]? =some x.core:=by rw[List.getElem?_map,hx];rfl
 have h2:((G.map (nd f)).map Nr.core)[i]? =some (nd f g).core:=by rw[List.getElem?_map,List.getElem?_map,hg];rfl
 rw[h,h2]at h1
 have:=Option.some.inj h1
 simp only[Nr.core,nd,Prod.mk.injEq,Px.mk.injEq]at this
 obtain⟨⟨a1,a2,a3,a4⟩,a5,a6,a7⟩:=this
 exact⟨a1.symm,a2.symm,a3.symm,a4.symm,a5.symm,a6.symm,a7.symm⟩
theorem Cw.px {f:Int} {x:Nr} {g:Nd} (h:Cw f x g):P4 x.f x.h x.l x.n=(bV f g.k).d:=by rw[h.fm,h.h,h.l,h.n]
theorem qe {f:Int}:∀ (n base:Nat) (l:List En),qk l→(∀ e,e∈l→ql f e.k)→l.length≤n→∀ g,g∈bC n base l→ql f g.k
 |n,base,[],_,_,_,g,hg=>by rw[cM]at hg;cases hg
 |0,base,e::r,_,_,h,g,hg=>by simp at h
 |n+1,base,e::r,zz,hk',h,g,hg=>by
  have sp:=fj zz
  simp only[List.length_cons]at h
  have hr:∀ x,x∈aD e r→ql f x.k:=fun x hx=>hk' x (dM hx)
  simp only[bC]at hg
  rcases List.mem_cons.1 hg with rfl |hg
  ·exact (hk' e (List.mem_cons_self ..)).pre (dg _ _)
  rcases List.mem_append.1 hg with hg |hg
  ·exact qe n _ _ sp.zs (fun x hx=>hr x (by rw[←sp.vm];exact List.mem_append_left _ hx)) (by have:=sp.zl;omega) g hg
  ·exact qe n _ _ sp.os (fun x hx=>hr x (by rw[←sp.vm];exact List.mem_append_right _ hx)) (by have:=sp.ol;omega) g hg
theorem rH {f:Int} {L:List En} (hs:qk L) (hk:∀ e,e∈L→ql f e.k):∀ g,g∈jW L→ql f g.k:=qe L.length 0 L hs hk (Nat.le_refl _)
end Go.Proofs.Ytkfnkiejikhglaa.Own
namespace Go.Proofs.Ytkfnkiejikhglaa.Own
open Go Go.Proofs.Ytkfnkiejikhglaa.GD Go.Proofs.Ytkfnkiejikhglaa.GD.Trie Go.Sort
theorem Er.vd.back {x:Er} (h:x.vd):ge x.f x.en=x:=by
 unfold ge Er.en
 dsimp only
 rw[show x.f=x.pf.f from rfl,tj h.ok]
 have:=h.n0
 have h2:=h.nb
 obtain⟨f,hh,l,n,nb,vs⟩:=x
 dsimp only at this h2
 subst h2
 simp only[Er.pf]at this⊢
 rw[←this]
theorem vc (f:Int) (G:List Nd):az (G.map (nd f))=(own G).map (ge f):=by
 unfold az own
 rw[List.filter_map,List.map_map,List.map_map]
 rfl
theorem j8 {xs:List Er} (h:∀ x,x∈xs→x.vd):∀ x,x∈bh xs→x.vd:=fun x hx=>h x ((b9 xs).mem_iff.1 hx)
theorem qf {f:Int} {xs:List Er} (h:∀ x,x∈xs→x.vd) (hd:xs.Pairwise fun a b=>a.px≠b.px):az (aK f xs)=(bh xs).filter fun x=>decide (x.f=f):=by
 have g:=iV (f:=f) h hd
 unfold aK
 rw[vc,show own (jW (bF f xs))=bF f xs from mw _ _ _ g.1 (Nat.le_refl _) fun e he=>(g.2.2.1 e he).1]
 unfold bF
 rw[List.map_map]
 refine (List.map_congr_left fun x hx=> ?_).trans (List.map_id _)
 rw[List.mem_filter]at hx
 have e1:x.f=f:=by simpa using hx.2
 have:=(j8 h x hx.1).back
 rw[e1]at this
 exact this
theorem ls {xs:List Er} (h:∀ x,x∈xs→x.vd) (hd:xs.Pairwise fun a b=>a.px≠b.px):az (aK 4 xs++aK 6 xs)=bh xs:=by
 rw[iw,qf h hd,qf h hd]
 have:=xT (j8 h) (gg h hd)
 rw[←this.1,←this.2,List.take_append_drop]
theorem ko {A B:List Nr} (h:A.map Nr.core=B.map Nr.core):az A=az B:=by
 have e:∀ L:List Nr,az L=((L.map Nr.core).filter fun c=> !c.2.1.isEmpty).map fun c=>⟨c.1.f,c.1.h,c.1.l,c.1.n,false,c.2.1⟩:=fun L=>by
  unfold az
  rw[List.filter_map,List.map_map]
  rfl
 rw[e,e,h]
theorem wO:∀ {a b:List Er},(∀ x,x∈a→x.vd)→(∀ x,x∈b→x.vd)→a.Perm b→(a.Pairwise fun x y=>ax x y=true)→(b.Pairwise fun x y=>ax x y=true)→a=b:=by
 intro a b _ _ hp ha hb
 refine List.Perm.eq_of_pairwise (fun x y _ _ h1 h2=> ?_) ha hb hp
 have h3:ax x x=true:=oq.trans x y x h1 h2
 rw[oq.irrefl]at h3;cases h3
theorem wP {xs:List Er} (h:∀ x,x∈xs→x.vd) (hd:xs.Pairwise fun a b=>a.px≠b.px) (hs:xs.Pairwise fun x y=>ax x y=true):bh xs=xs:=
 wO (j8 h) h (b9 xs) (gg h hd) hs
theorem u_.FT {A B:List Nr} (hf:u_ A B) (hA:∀ x,x∈A→x.eC) (hB:∀ x,x∈B→x.eC):(∀ x,x∈az (A++B)→x.vd)∧((az (A++B)).Pairwise fun a b=>a.px≠b.px)∧bh (az (A++B))=az (A++B)∧((az (A++B)).Pairwise fun x y=>ax x y=true):=by
 have vi:=rG (L:=A++B) (fun x hx=>(List.mem_append.1 hx).elim (hA x) (hB x))
 obtain⟨v1,v2⟩:=xV vi hf.c
 have e:az (A++B)=bh (az (A++B)):=by
  have h1:=ko hf.ga
  have h2:=ko hf.gb
  have h3:=ls v1 v2
  rw[iw]at h3
  rw[←h1,←h2,←iw]at h3
  exact h3
 refine⟨v1,v2,e.symm, ?_⟩
 have:=gg v1 v2
 rwa [←e]at this
theorem wQ {xs:List Er} (h:∀ x,x∈xs→x.vd) (hv:∀ x,x∈xs→gd x.vs=true) (hd:xs.Pairwise fun a b=>a.px≠b.px) (l4:(aK 4 xs).length≤4000) (l6:(aK 6 xs).length≤4000):u_ (aK 4 xs) (aK 6 xs):=by
 have e:=ls h hd
 have hs:=j8 h
 have hp:=b9 xs
 have zU:(bh xs).Pairwise fun a b=>a.px≠b.px:=(hp.pairwise_iff (fun h=>Ne.symm h)).2 hd
 have he:=wP hs zU (gg h hd)
 have hg:∀ f,aK f (bh xs)=aK f xs:=fun f=>by unfold aK bF;rw[he]
 refine⟨l4,l6, ?_,by rw[e,hg],by rw[e,hg]⟩
 rw[e]
 exact rC (fun x hx=>⟨(hs x hx).c,hv x (hp.mem_iff.1 hx),rfl⟩) zU
theorem qg {f:Int} {xs:List Er} (h:∀ x,x∈xs→x.vd) (hd:xs.Pairwise fun a b=>a.px≠b.px):∀ x,x∈aK f xs→x.eC∧x.vs.length≤5000:=by
 intro x hx
 obtain⟨g,hg,rfl⟩:=List.mem_map.1 hx
 have fo:=iV (f:=f) h hd
 have hb:∀ (n base:Nat) (l:List En),qk l→l.length≤n→(∀ e,e∈l→ql f e.k∧e.v.length≤5000)→∀ y,y∈bC n base l→ql f y.k∧y.v.length≤5000:=by
  intro n
  induction n with
  |zero=>intro base l _ hl _ y hy;cases l with
   |nil=>cases hy
   |cons=>simp at hl
  |succ n ih=>
   intro base l hs hl hk y hy
   cases l with
   |nil=>cases hy
   |cons e r=>
    have sp:=fj hs
    simp only[List.length_cons]at hl
    have hr:∀ x,x∈aD e r→ql f x.k∧x.v.length≤5000:=fun x hx=>hk x (dM hx)
    simp only[bC]at hy
    rcases List.mem_cons.1 hy with rfl |hy
    ·refine⟨(hk e (List.mem_cons_self ..)).1.pre (dg _ _), ?_⟩
     dsimp only
     split
     ·exact (hk e (List.mem_cons_self ..)).2
     ·simp
    rcases List.mem_append.1 hy with hy |hy
    ·exact ih _ _ sp.zs (by have:=sp.zl;omega) (fun x hx=>hr x (by rw[←sp.vm];exact List.mem_append_left _ hx)) y hy
    ·exact ih _ _ sp.os (by have:=sp.ol;omega) (fun x hx=>hr x (by rw[←sp.vm];exact List.mem_append_right _ hx)) y hy
 obtain⟨h1,h2⟩:=hb _ 0 _ fo.1 (Nat.le_refl _) (fun e he=>⟨fo.2.1 e he,(fo.2.2.1 e he).2⟩) g hg
 exact⟨⟨h1.sp.1.r,fun hn=>by simpa[nd]using hn⟩,h2⟩
theorem rI {f:Int} {xs:List Er} (h:∀ x,x∈xs→x.vd) (hd:xs.Pairwise fun a b=>a.px≠b.px):(aK f xs).length≤2*xs.length:=by
 have fo:=iV (f:=f) h hd
 unfold aK
 rw[List.length_map]
 by_cases h0:bF f xs=[]
 ·rw[h0];simp[jW,cM]
 ·have:=(jX (bF f xs).length 0 _ fo.1 (Nat.le_refl _) h0).2
  have h2:=fo.2.2.2
  have:(jW (bF f xs)).length+1≤2*(bF f xs).length:=this
  omega
abbrev tL:D:= .agg [.sl 69 true [],.sl 69 true []]
theorem Eb (nb:Bool) (xs:List Er) (hnb:nb=true→xs=[]) (hl:xs.length≤20000) (h:∀ x,x∈xs→x.vd) (hd:xs.Pairwise fun a b=>a.px≠b.px):
  Cl ty tab 38 [.sl 49 nb (xs.map aw)]=some (if 4000<(aK 4 xs).length∨4000<(aK 6 xs).length then [tL,.int .i64 16]else [.agg [iW 4 xs,iW 6 xs],.int .i64 0]):=by
 refine wv 0 _ _ ?_
 unfold uH
 have hp:=u9 nb xs hnb hl h hd
 rw[d7,d7]at hp⊢
 have h1:((aK 4 xs).map dk).length=(aK 4 xs).length:=by simp
 have h2:((aK 6 xs).map dk).length=(aK 6 xs).length:=by simp
 by_cases l1:4000<(aK 4 xs).length
 ·have:(4000:Int)<(((aK 4 xs).length:Nat):Int):=by omega
  rw[if_pos (.inl l1)]
  simp (disch:=omega) only[aA,hp,h1,this]
 by_cases l2:4000<(aK 6 xs).length
 ·have e1: ¬(4000:Int)<(((aK 4 xs).length:Nat):Int):=by omega
  have e2:(4000:Int)<(((aK 6 xs).length:Nat):Int):=by omega
  rw[if_pos (.inr l2)]
  simp (disch:=omega) only[aA,hp,h1,h2,e1,e2]
 have e1: ¬(4000:Int)<(((aK 4 xs).length:Nat):Int):=by omega
 have e2: ¬(4000:Int)<(((aK 6 xs).length:Nat):Int):=by omega
 rw[if_neg (by omega)]
 simp (disch:=omega) only[aA,hp,h1,h2,e1,e2]
theorem Bd (nb:Bool) (xs:List Er) (hnb:nb=true→xs=[]) (hl:xs.length≤20000) (hg:∀ x,x∈xs→x.eC):
  Cl ty tab 12 [.sl 49 nb (xs.map aw)]=some (if 4000<xs.length then [tL,.int .i64 4]else if dh [] xs≠0 then [tL,.int .i64 (dh [] xs)]else if 4000<(aK 4 xs).length∨4000<(aK 6 xs).length then [tL,.int .i64 16]else [.agg [iW 4 xs,iW 6 xs],.int .i64 0]):=by
 refine sK 0 _ _ ?_
 unfold pL
 have h1:(xs.map aw).length=xs.length:=by simp
 by_cases l1:4000<xs.length
 ·have:(4000:Int)<((xs.length:Nat):Int):=by omega
  rw[if_pos l1]
  simp (disch:=omega) only[aA,h1,this]
 have e1: ¬(4000:Int)<((xs.length:Nat):Int):=by omega
 rw[if_neg l1]
 have hc:=u6 nb xs hg (by omega)
 by_cases hz:dh [] xs=0
 ·rw[hz]at hc⊢
  obtain⟨v1,v2⟩:=xV hg hz
  have hf:=Eb nb xs hnb hl v1 v2
  rw[if_neg (by simp)]
  by_cases l2:4000<(aK 4 xs).length∨4000<(aK 6 xs).length
  ·rw[if_pos l2]at hf⊢
   simp (disch:=omega) only[aA,h1,e1,hc,hf,ne_eq,not_true_eq_false]
  ·rw[if_neg l2]at hf⊢
   rw[d7,d7]at hf⊢
   simp (disch:=omega) only[aA,h1,e1,hc,hf,ne_eq,not_true_eq_false]
 ·rw[if_pos hz]
  simp (disch:=omega) only[aA,h1,e1,hc,hz,ne_eq,not_false_eq_true]
theorem open_ok (n1 n2:Bool) (A B:List Nr) (hA:∀ x,x∈A→x.eC∧x.vs.length≤5000) (hB:∀ x,x∈B→x.eC∧x.vs.length≤5000) (lA:A.length≤5000) (lB:B.length≤5000) (p:Px) (hp:fE p.h p.l):
  Cl ty tab 49 [.agg [.sl 69 n1 (A.map dk),.sl 69 n2 (B.map dk)],p.d]=some [.int .i64 (if lr A B=0 then co p.f p.h p.l p.n else lr A B)]:=by
 refine uJ 0 _ _ _ _ _ _ _ _ ?_
 unfold rh
 have hc:=zt n1 n2 A B hA hB lA lB
 have hq:=dP p.f p.h p.l p.n hp
 by_cases h:lr A B=0
 ·rw[if_pos h]
  rw[h]at hc
  simp (disch:=omega) only[aA,hc,hq]
 ·rw[if_neg h]
  simp (disch:=omega) only[aA,hc,h]
theorem nL {A B:List Nr}:lr A B=0↔u_ A B:=by
 unfold lr
 constructor
 ·intro h
  split at h
  ·cases h
  ·split at h
   ·assumption
   ·cases h
 ·intro h
  have:=h.a;have:=h.b
  rw[if_neg (by omega),if_pos h]
def gq (p:Pf) (x:Er):Bool:=decide (x.f=p.f)&&pre x.en.k p.bits
def dN (p:Pf) (x:Er):Bool:=decide (x.f=p.f)&&pre p.bits x.en.k
theorem wR {f:Int} {xs:List Er} (h:∀ x,x∈xs→x.vd) (q:Bs→Bool):(((xs.filter fun x=>decide (x.f=f)).map Er.en).filter fun e=>q e.k).map (gf f)=(xs.filter fun x=>decide (x.f=f)&&q x.en.k).map aw:=by
 rw[List.filter_map,List.filter_filter,List.map_map]
 have e:(xs.filter fun a=>((fun e:En=>q e.k)∘Er.en) a&&decide (a.f=f))=xs.filter fun x=>decide (x.f=f)&&q x.en.k:=List.filter_congr fun x _=>by simp[Bool.and_comm]
 rw[e]
 refine List.map_congr_left fun x hx=> ?_
 rw[List.mem_filter,zq3,decide_eq_true_eq]at hx
 have:=(h x hx.1).FR
 rw[hx.2.1]at this
 exact this.symm
theorem ve (d1 d2:List D) (n1 n2:Bool) (f:Int):Cl ty tab 51 [.agg [.sl 69 n1 d1,.sl 69 n2 d2],.int .u8 f]=some [if f=4 then .sl 69 n1 d1 else .sl 69 n2 d2]:=by
 refine sM 0 _ _ _ _ _ ?_
 unfold pP
 by_cases h:f=4
 ·rw[if_pos h];simp (disch:=omega) only[aA,h]
 ·rw[if_neg h];simp (disch:=omega) only[aA,h]
theorem Be (n:Bool) (d:List D) (p:Px):Cl ty tab 50 [.sl 69 n d,p.d]=some [.fn 85 [.rp [.sl 69 n d] 0,.rp [.int .u8 p.f,.int .u64 (p.h:Int),.int .u64 (p.l:Int),.int .i64 p.n] 0]]:=ww 0 _ _ _ _ _ _ rfl
theorem round_ok (k:Nat) (x:Nr) (hx:x.eC) (hl:x.vs.length≤5000) (nw:Bool) (lw:List D) (EC:lw.length≤5000):dround ck 49 (envOf ty tab (Cl ty tab)) k [dk x,.ov 49 nw lw]=
  some [.ov 49 (nw&&x.vs.isEmpty) (lw++(az [x]).map aw)]:=by
 have:=jp (Cl ty tab) k x.f x.h x.l x.n x.nb (iv x.vs) x.c0 x.c1 nw lw
 refine Eq.trans this ?_
 unfold ft
 cases hv:x.vs with
 |nil=>
  simp (disch:=omega) only[aA,iv,List.map_nil,Int.natCast_zero,Int.lt_irrefl]
  simp[az,hv]
 |cons v vs=>
  have hne:x.vs≠[]:=by rw[hv];simp
  have hcl:=mA hx.nb hne hl
  rw[←hv]
  have e0:(0:Int)<((x.vs.length:Nat):Int):=by rw[hv];simp
  have e2:x.vs.isEmpty=false:=by rw[hv];rfl
  have e3:(lw.length+1)*56≤140737488355328:=by omega
  simp (disch:=omega) only[aA,hcl,e0,e2,e3]
  simp[az,hv,aw]
theorem Ec {f:Int} {x:Nr} {g:Nd} (h:Cw f x g):(az [x]).map aw=(own [g]).map (gf f):=by
 have e:az [x]=az [nd f g]:=ko (by
  simp only[List.map_cons,List.map_nil,Nr.core,nd,h.fm,h.h,h.l,h.n,h.vs,h.c0,h.c1])
 rw[e,show[nd f g]=[g].map (nd f)from rfl,vc,List.map_map]
 rfl
theorem Cy {f:Int} (k:Nat) (hk:9223372036854775808<k) (n:Bool) (A:List Nr) (G:List Nd) (p:Pf) (hp:p.ok) (hf:p.f=f) (hA:A.map Nr.core=(G.map (nd f)).map Nr.core) (hG:∀ g,g∈G→ql f g.k) (hN:∀ i,AV G 0 i) (hg:∀ x,x∈A→x.eC∧x.vs.length≤5000) (hl:A.length≤5000)
  (B:List D→Option (List D)) (hB:∀ x,x∈A→∀ nw lw,lw.length≤5000→B [dk x,.ov 49 nw lw]=some [.ov 49 (nw&&x.vs.isEmpty) (lw++(az [x]).map aw)]):
  cC (Cl ty tab) k B n (A.map dk) p.f p.h p.l p.n true []=some [.ov 49 (own (walk G p.bits G.length (if A.length=0 then -1 else 0))).isEmpty ((own (walk G p.bits G.length (if A.length=0 then -1 else 0))).map (gf f))]:=by
 obtain⟨K_,ho⟩:=FS hA
 have Bf:C9 G:=fun i x hx b=>by
  rcases (hN i x hx).2 b with h |⟨j,y,h1,h2,h3,h4⟩
  ·exact .inl h
  ·exact .inr (by rw[h1];omega)
 have hlen:(A.map dk).length=A.length:=by simp
 have loop:∀ F:List D→(List D→Option (List D))→Option (List D),(∀ vs ag,F vs ag=cC.b0 (Cl ty tab) k B (A.map dk) p.f p.h p.l p.n vs ag)→∀ Ed:Int,(Ed= -1∨(Ed=0∧0<A.length))→
   iter k F [.int .i64 Ed,.pv [.ov 49 true []]]=some [.ov 49 (own (walk G p.bits G.length Ed)).isEmpty ((own (walk G p.bits G.length Ed)).map (gf f))]:=by
  intro F hF Ed hat
  have:=br (F:=F) (σ:=Int×Bool×List D) (fun s=>[.int .i64 s.1,.pv [.ov 49 s.2.1 s.2.2]]) (fun s=>some [.ov 49 (s.2.1&&(own (walk G p.bits G.length s.1)).isEmpty) (s.2.2++(own (walk G p.bits G.length s.1)).map (gf f))])
   (fun s=>if s.1<0 then 0 else A.length - s.1.toNat) (fun s=>s.1= -1∨∃ i:Nat,s.1=i∧i<A.length∧s.2.2.length≤i) (fun s hs again ih=> ?_) k (Ed,true,[]) (by
    rcases hat with h |⟨h,h2⟩
    ·exact .inl h
    ·exact .inr ⟨0,h,h2,Nat.le_refl _⟩) (by dsimp only;split<;>omega)
  ·simpa using this
  ·obtain⟨a,nw,lw⟩:=s
   dsimp only at hs ih⊢
   rw[hF]
   unfold cC.b0
   rcases hs with rfl |⟨i,rfl,hi,EC⟩
   ·rw[f7 _ (by omega)]
    simp (disch:=omega) only[aA,own,List.filter_nil,List.map_nil,List.append_nil,Int.reduceNeg,Int.reduceLE,List.isEmpty_nil]
   ·have hx:A[i]? =some A[i]:=zq4 _
    have gx:(A.map dk).getD i .undef=dk A[i]:=bo hi
    have La:=List.getElem_mem hi
    have Bg:G[i]? =some (G[i]'(by omega)):=zq4 _
    generalize (G[i]'(by omega))=g at Bg
    have wS:=ho i A[i] g hx Bg
    have vi:=hg A[i] La
    have Lb:=hB A[i] La nw lw (by omega)
    generalize A[i]=x at*
    have sg:=(hG g (List.mem_of_getElem? Bg)).sp
    have Bh:=km sg.1 hp
    rw[sg.2.1,hf,sg.2.2,decide_eq_true rfl,Bool.true_and]at Bh
    have kS:Cl ty tab 29 [.agg [.int .u8 x.f,.int .u64 (x.h:Int),.int .u64 (x.l:Int),.int .i64 x.n],.agg [.int .u8 p.f,.int .u64 (p.h:Int),.int .u64 (p.l:Int),.int .i64 (p.n:Int)]]=some [.bool (pre g.k p.bits)]:=by
     rw[show (D.agg [.int .u8 x.f,.int .u64 (x.h:Int),.int .u64 (x.l:Int),.int .i64 x.n])=(bV f g.k).d from wS.px]
     exact Bh
    have hne:=wN x
    obtain⟨m,hm⟩:∃ m,G.length=m+1:=⟨G.length - 1,by omega⟩
    have hw:walk G p.bits G.length (i:Int)=if pre g.k p.bits=true then g::(if p.bits.length≤g.k.length then []else walk G p.bits m (Trie.child g (Trie.aJ p.bits g.k.length)))else []:=by
     rw[hm,walk,if_neg (by omega),Int.toNat_natCast,Bg]
    rw[hw]
    have Iv:g.k.length=(bV f g.k).n:=by rw[←(bV f g.k).len,sg.2.2]
    cases wD:pre g.k p.bits
    ·rw[wD]at kS
     simp (disch:=omega) only[aA,hlen,gx,wJ,kS,own,List.filter_nil,List.map_nil,List.append_nil,List.isEmpty_nil]
    ·rw[wD]at kS
     rw[if_pos rfl]
     have hown:=Ec wS
     have Lc:(own [g]).isEmpty=x.vs.isEmpty:=by rw[wS.vs];unfold own;cases h:g.v<;>simp[h]
     by_cases hle:p.bits.length≤g.k.length
     ·rw[if_pos hle,←hown,Lc]
      have h1:(p.n:Int)≤x.n:=by rw[wS.n,←Iv,←p.len];omega
      simp (disch:=omega) only[aA,hlen,gx,wJ,kS,hne,Lb,h1]
     ·rw[if_neg hle]
      have h1: ¬(p.n:Int)≤x.n:=by rw[wS.n,←Iv,←p.len];omega
      have u7:=oe hp g.k.length
      have MK:x.n=((g.k.length:Nat):Int):=by rw[wS.n,Iv]
      rw[←MK]at u7
      have FU:Cl ty tab 86 [.agg [.int .u8 p.f,.int .u64 (p.h:Int),.int .u64 (p.l:Int),.int .i64 (p.n:Int)],.int .i64 x.n]=some [.int .i64 (bi (Trie.aJ p.bits g.k.length))]:=u7
      generalize Trie.aJ p.bits g.k.length=b at*
      have hcell:(dk x).cell (5+(bi b).toNat)= .int .i64 (Trie.child g b):=by
          cases b
          ·show D.int .i64 x.c0=_;rw[wS.c0];rfl
          ·show D.int .i64 x.c1=_;rw[wS.c1];rfl
      have Bv:0≤bi b∧bi b<2:=by cases b<;>simp[bi]
      have CN:bi b<((2:Nat):Int):=Bv.2
      have ML:(lw++(az [x]).map aw).length≤i+1:=by
          have:=kn [x]
          rw[List.length_append,List.length_map]
          simp only[List.length_singleton]at this
          omega
      have FV:walk G p.bits m (Trie.child g b)=walk G p.bits G.length (Trie.child g b):=by
          rcases Bf i g Bg b with h |h
          ·rw[h,f7 m (i:= -1) (by omega),f7 _ (i:= -1) (by omega)]
          ·have e:Trie.child g b=(((Trie.child g b).toNat:Nat):Int):=by omega
           rw[e]
           exact rq Bf _ _ _ _ (by omega) (by omega)
      have b6:=ih (Trie.child g b,nw&&x.vs.isEmpty,lw++(az [x]).map aw) (by
          dsimp only
          rcases (hN i g Bg).2 b with h |⟨j,y,e1,e2,e3,e4⟩
          ·exact .inl h
          ·have hj:=(zq6.1 e3).1
           exact .inr ⟨j,by rw[e1];simp,by omega,by omega⟩) (by
          dsimp only
          rcases (hN i g Bg).2 b with h |⟨j,y,e1,e2,e3,e4⟩
          ·rw[h,if_pos (show (-1:Int)<0 by omega),if_neg (show¬((i:Nat):Int)<0 by omega)]
           omega
          ·rw[e1]
           rw[if_neg (show¬(((0+j:Nat):Int)<0)by omega),if_neg (show¬((i:Nat):Int)<0 by omega)]
           omega)
      dsimp only at b6
      rw[FV,show g::walk G p.bits G.length (Trie.child g b)=[g]++walk G p.bits G.length (Trie.child g b)from rfl,od,List.map_append,←hown]
      have MM:(own [g]++own (walk G p.bits G.length (Trie.child g b))).isEmpty=(x.vs.isEmpty&&(own (walk G p.bits G.length (Trie.child g b))).isEmpty):=by rw[←Lc];cases own [g]<;>rfl
      rw[MM,←List.append_assoc,←Bool.and_assoc]
      simp (disch:=omega) only[aA,hlen,gx,wJ,kS,hne,Lb,h1,FU,Bv,CN,and_self,hcell]
      exact b6
 unfold cC
 by_cases h0:A.length=0
 ·rw[if_pos h0]
  simp (disch:=omega) only[aA,hlen,h0,Int.natCast_zero]
  exact loop _ (fun _ _=>rfl) (-1) (.inl rfl)
 ·rw[if_neg h0]
  have: ¬((A.length:Nat):Int)=0:=by omega
  simp (disch:=omega) only[aA,hlen,this]
  exact loop _ (fun _ _=>rfl) 0 (.inr ⟨rfl,by omega⟩)
end Go.Proofs.Ytkfnkiejikhglaa.Own
namespace Go.Proofs.Ytkfnkiejikhglaa.Own
open Go Go.Proofs.Ytkfnkiejikhglaa.GD Go.Proofs.Ytkfnkiejikhglaa.GD.Trie Go.Sort
theorem qx (n1 n2:Bool) (A B:List Nr) (hf:u_ A B) (hA:∀ x,x∈A→x.eC∧x.vs.length≤5000) (hB:∀ x,x∈B→x.eC∧x.vs.length≤5000) (p:Pf) (hp:p.ok):
  Cl ty tab 20 [.agg [.sl 69 n1 (A.map dk),.sl 69 n2 (B.map dk)],p.d]=some [.ov 49 ((az (A++B)).filter (gq p)).isEmpty (((az (A++B)).filter (gq p)).map aw),.int .i64 0]:=by
 obtain⟨k,hk⟩:=cP
 refine nV k _ _ _ _ _ _ _ _ ?_
 unfold kP
 have lA:=hf.a
 have lB:=hf.b
 have ho:=open_ok n1 n2 A B hA hB (by omega) (by omega) ⟨p.f,p.h,p.l,p.n⟩ hp.r
 rw[if_pos (nL.2 hf),hp.c]at ho
 have hn:=ve (A.map dk) (B.map dk) n1 n2 p.f
 obtain⟨v1,v2,v3,v4⟩:=hf.FT (fun x hx=>(hA x hx).1) (fun x hx=>(hB x hx).1)
 have key:∀ (f:Int) (n:Bool) (R:List Nr),p.f=f→(∀ x,x∈R→x.eC∧x.vs.length≤5000)→R.length≤5000→R.map Nr.core=(aK f (az (A++B))).map Nr.core→
   diter fA 49 {envOf ty tab (Cl ty tab)with yld:=some (49,dround ck 49 (envOf ty tab (Cl ty tab)) k)} k [.rp [.sl 69 n (R.map dk)] 0,.rp [.int .u8 p.f,.int .u64 (p.h:Int),.int .u64 (p.l:Int),.int .i64 (p.n:Int)] 0] true []=
    some [.ov 49 ((az (A++B)).filter (gq p)).isEmpty (((az (A++B)).filter (gq p)).map aw)]:=by
  intro f n R Ee hR lR rJ
  have fo:=iV (f:=f) v1 v2
  rw[sN]
  have hw:=Cy (f:=f) k hk n R (jW (bF f (az (A++B)))) p hp Ee rJ (rH fo.1 fo.2.1) (Trie.kj _ 0 _ fo.1 (Nat.le_refl _) fun e he=>(fo.2.2.1 e he).1) hR lR _ (fun x hx nw lw EC=>round_ok k x (hR x hx).1 (hR x hx).2 nw lw EC)
  rw[hw]
  have FF:(if R.length=0 then (-1:Int)else 0)=ix (bF f (az (A++B))) 0:=by
   have hl:=congrArg List.length rJ
   rw[List.length_map,List.length_map]at hl
   unfold ix
   by_cases h0:bF f (az (A++B))=[]
   ·have:R.length=0:=by rw[hl];unfold aK;rw[h0];rfl
    rw[if_pos this,h0];rfl
   ·have h1:=(jX (bF f (az (A++B))).length 0 _ fo.1 (Nat.le_refl _) h0).1
    have h2:1≤R.length:=by rw[hl];unfold aK;rw[List.length_map];exact h1
    rw[if_neg (by omega),if_neg (by simpa using h0)];rfl
  have hown:own (walk (jW (bF f (az (A++B)))) p.bits (jW (bF f (az (A++B)))).length (ix (bF f (az (A++B))) 0))=(bF f (az (A++B))).filter fun e=>pre e.k p.bits:=by
   by_cases h0:bF f (az (A++B))=[]
   ·rw[h0,f7 _ (by simp[ix])];rfl
   ·have h1:=mw _ 0 _ fo.1 (Nat.le_refl _) fun e he=>(fo.2.2.1 e he).1
    have h2:(bF f (az (A++B))).length≤(jW (bF f (az (A++B)))).length:=by
     have:(own (jW (bF f (az (A++B))))).length≤(jW (bF f (az (A++B)))).length:=by unfold own;rw[List.length_map];exact List.length_filter_le ..
     rwa [show own (jW (bF f (az (A++B))))=bF f (az (A++B))from h1]at this
    exact pW _ p.bits _ _ 0 _ fo.1 (Nat.le_refl _) h2 (fun e he=>(fo.2.2.1 e he).1) (fun i x hx=>by rw[Nat.zero_add];exact hx)
  rw[FF,hown]
  have Iw:=wR (f:=f) (xs:=az (A++B)) v1 (fun b=>pre b p.bits)
  have MN:((az (A++B)).filter fun x=>decide (x.f=f)&&pre x.en.k p.bits)=(az (A++B)).filter (gq p):=List.filter_congr fun x _=>by unfold gq;rw[Ee]
  rw[MN]at Iw
  have Ix:bF f (az (A++B))=((az (A++B)).filter fun x=>decide (x.f=f)).map Er.en:=by unfold bF;rw[v3]
  rw[Ix,Iw]
  congr 3
  have:=congrArg List.isEmpty Iw
  simpa using this
 rcases hp.Da with⟨h4,_⟩ |⟨h6,_⟩
 ·have hi:=key 4 n1 A h4 hA (by omega) hf.ga
  rw[if_pos h4]at hn
  have hw:=Be n1 (A.map dk) ⟨p.f,p.h,p.l,p.n⟩
  have e:∀ x y:D,((D.fn 85 [x,y]).cell 0).caps=[x,y]:=fun _ _=>rfl
  simp (disch:=omega) only[aA,ho,hn,hw,e,ne_eq,not_true_eq_false]
  exact Eq.trans (congrArg (fun z=>wn z fun n4 l5=>(some [(D.ov 49 n4 l5),(D.int .i64 0)])) hi) rfl
 ·have hi:=key 6 n2 B h6 hB (by omega) hf.gb
  rw[if_neg (by omega)]at hn
  have hw:=Be n2 (B.map dk) ⟨p.f,p.h,p.l,p.n⟩
  have e:∀ x y:D,((D.fn 85 [x,y]).cell 0).caps=[x,y]:=fun _ _=>rfl
  simp (disch:=omega) only[aA,ho,hn,hw,e,ne_eq,not_true_eq_false]
  exact Eq.trans (congrArg (fun z=>wn z fun n4 l5=>(some [(D.ov 49 n4 l5),(D.int .i64 0)])) hi) rfl
theorem Bi (x:Nr):az [x]=if x.vs.isEmpty=true then []else [⟨x.f,x.h,x.l,x.n,false,x.vs⟩]:=by
 cases h:x.vs.isEmpty<;>simp[az,h]
theorem tv (n1 n2:Bool) (A B:List Nr) (hf:u_ A B) (hA:∀ x,x∈A→x.eC∧x.vs.length≤5000) (hB:∀ x,x∈B→x.eC∧x.vs.length≤5000) (p:Pf) (hp:p.ok):
  Cl ty tab 22 [.agg [.sl 69 n1 (A.map dk),.sl 69 n2 (B.map dk)],p.d]=some [.ov 49 ((az (A++B)).filter (dN p)).isEmpty (((az (A++B)).filter (dN p)).map aw),.int .i64 0]:=by
 obtain⟨k,hk⟩:=cP
 refine pT k _ _ _ _ _ _ _ _ ?_
 unfold b5
 have lA:=hf.a
 have lB:=hf.b
 have ho:=open_ok n1 n2 A B hA hB (by omega) (by omega) ⟨p.f,p.h,p.l,p.n⟩ hp.r
 rw[if_pos (nL.2 hf),hp.c]at ho
 have hn:=ve (A.map dk) (B.map dk) n1 n2 p.f
 obtain⟨v1,v2,v3,v4⟩:=hf.FT (fun x hx=>(hA x hx).1) (fun x hx=>(hB x hx).1)
 have key:∀ (f:Int) (n:Bool) (R:List Nr),p.f=f→(∀ x,x∈R→x.eC∧x.vs.length≤5000)→R.length≤5000→R.map Nr.core=(aK f (az (A++B))).map Nr.core→
   iter k (b5.b0 (Cl ty tab) k [.sl 69 n (R.map dk)]) [.ov 49 true [],.int .i64 0,.pv [.int .u8 p.f,.int .u64 (p.h:Int),.int .u64 (p.l:Int),.int .i64 (p.n:Int)]]=
    some [.ov 49 ((az R).filter (dN p)).isEmpty (((az R).filter (dN p)).map aw),.int .i64 0]:=by
  intro f n R Ee hR lR rJ
  have fo:=iV (f:=f) v1 v2
  obtain⟨K_,hno⟩:=FS rJ
  have hG:=rH fo.1 fo.2.1
  have hlen:(R.map dk).length=R.length:=by simp
  have:=cS (F:=b5.b0 (Cl ty tab) k [.sl 69 n (R.map dk)]) R.length (fun i=>[.ov 49 ((az (R.take i)).filter (dN p)).isEmpty (((az (R.take i)).filter (dN p)).map aw),.int .i64 i,.pv [.int .u8 p.f,.int .u64 (p.h:Int),.int .u64 (p.l:Int),.int .i64 (p.n:Int)]])
   (fun _=>some [.ov 49 ((az R).filter (dN p)).isEmpty (((az R).filter (dN p)).map aw),.int .i64 0]) (fun i hi again ha=> ?_) (fun again=> ?_) k (by omega) 0 (by omega)
  ·exact this
  ·unfold b5.b0
   have hx:R[i]? =some R[i]:=zq4 _
   have gx:(R.map dk).getD i .undef=dk R[i]:=bo hi
   have Bg:(jW (bF f (az (A++B))))[i]? =some ((jW (bF f (az (A++B))))[i]'(by have:=K_;simpa[aK]using (by omega:i<_))):=zq4 _
   generalize ((jW (bF f (az (A++B))))[i]'_)=g at Bg
   have wS:=hno i R[i] g hx Bg
   have vi:=hR R[i] (List.getElem_mem hi)
   have Ef:=kn (R.take i)
   rw[List.length_take]at Ef
   have Gx:=List.length_filter_le (dN p) (az (R.take i))
   rw[List.take_add_one,hx,Option.toList_some,iw,List.filter_append,Bi]at ha
   generalize R[i]=x at*
   generalize (az (R.take i)).filter (dN p)=H at*
   have sg:=(hG g (List.mem_of_getElem? Bg)).sp
   have Bh:=km hp sg.1
   rw[sg.2.1,Ee,sg.2.2,decide_eq_true rfl,Bool.true_and]at Bh
   have kS:Cl ty tab 29 [.agg [.int .u8 p.f,.int .u64 (p.h:Int),.int .u64 (p.l:Int),.int .i64 (p.n:Int)],.agg [.int .u8 x.f,.int .u64 (x.h:Int),.int .u64 (x.l:Int),.int .i64 x.n]]=some [.bool (pre p.bits g.k)]:=by
    rw[show (D.agg [.int .u8 x.f,.int .u64 (x.h:Int),.int .u64 (x.l:Int),.int .i64 x.n])=(bV f g.k).d from wS.px]
    exact Bh
   cases hv:x.vs with
   |nil=>
    rw[hv]at ha
    simp only[List.isEmpty_nil,if_true,List.filter_nil,List.append_nil]at ha
    simp (disch:=omega) only[aA,hlen,gx,wJ,hv,iv,List.map_nil,Int.natCast_zero,Int.lt_irrefl,Int.natCast_add,Int.natCast_one]at ha⊢
    exact ha
   |cons v vs=>
    have hne:x.vs≠[]:=by rw[hv];simp
    have hcl:=mA vi.1.nb hne vi.2
    have e0:(0:Int)<((x.vs.length:Nat):Int):=by rw[hv];simp
    have e2:x.vs.isEmpty=false:=by rw[hv];rfl
    rw[e2]at ha
    simp only[Bool.false_eq_true,if_false]at ha
    have Ar:dN p ⟨x.f,x.h,x.l,x.n,false,x.vs⟩=pre p.bits g.k:=by
     have hen:(⟨x.f,x.h,x.l,x.n,false,x.vs⟩:Er).en.k=g.k:=by
      show Pf.bits ⟨x.f,x.h,x.l,x.n.toNat⟩=g.k
      rw[wS.fm,wS.h,wS.l,wS.n,Int.toNat_natCast]
      exact sg.2.2
     unfold dN
     rw[hen]
     dsimp only
     rw[wS.fm,sg.2.1,Ee,decide_eq_true rfl,Bool.true_and]
    cases wD:pre p.bits g.k
    ·rw[wD]at kS Ar
     rw[List.filter_cons,Ar]at ha
     simp only[Bool.false_eq_true,if_false,List.filter_nil,List.append_nil]at ha
     simp (disch:=omega) only[aA,hlen,gx,wJ,e0,kS,Int.natCast_add,Int.natCast_one]at ha⊢
     exact ha
    ·rw[wD]at kS Ar
     rw[List.filter_cons,Ar,if_pos rfl,List.filter_nil]at ha
     have e5:∀ z:Er,(H++[z]).isEmpty=false:=fun z=>by simp
     rw[e5,List.map_append,List.map_cons,List.map_nil]at ha
     have e3:(H.length+1)*56≤140737488355328:=by omega
     have hH:(H.map aw).length=H.length:=by simp
     have f1:=enc.2.2.2.2.2.1 ⟨x.f,x.h,x.l,x.n,false,x.vs⟩
     dsimp only at f1
     simp (disch:=omega) only[aA,hlen,gx,wJ,e0,kS,hcl,e3,hH,f1,Int.natCast_add,Int.natCast_one]at ha⊢
     exact ha
  ·unfold b5.b0
   rw[List.take_length]
   simp (disch:=omega) only[aA,hlen]
 have hres:∀ (f:Int) (R:List Nr),p.f=f→R.map Nr.core=(aK f (az (A++B))).map Nr.core→(az R).filter (dN p)=(az (A++B)).filter (dN p):=by
  intro f R Ee rJ
  rw[ko rJ,qf v1 v2,v3,List.filter_filter]
  exact List.filter_congr fun x _=>by
   unfold dN
   rw[Ee]
   cases decide (x.f=f)<;>simp
 rcases hp.Da with⟨h4,_⟩ |⟨h6,_⟩
 ·have hi:=key 4 n1 A h4 hA (by omega) hf.ga
  rw[hres 4 A h4 hf.ga]at hi
  rw[if_pos h4]at hn
  simp (disch:=omega) only[aA,ho,hn,ne_eq,not_true_eq_false]
  exact hi
 ·have hi:=key 6 n2 B h6 hB (by omega) hf.gb
  rw[hres 6 B h6 hf.gb]at hi
  rw[if_neg (by omega)]at hn
  simp (disch:=omega) only[aA,ho,hn,ne_eq,not_true_eq_false]
  exact hi
end Go.Proofs.Ytkfnkiejikhglaa.Own
namespace Go.Proofs.Ytkfnkiejikhglaa.Own
open Go Go.Proofs.Ytkfnkiejikhglaa.GD Go.Proofs.Ytkfnkiejikhglaa.GD.Trie Go.Sort
theorem FW {d:D} (h:fits (.sl 3) d=true) (hw:WT ty d):∃ (nb:Bool) (v:List Int),d= .sl 3 nb (iv v)∧(nb=true→v=[])∧v.length≤9223372036854775807∧∀ x,x∈v→ -9223372036854775808≤x∧x≤9223372036854775807:=by
 obtain⟨nb,els,rfl⟩:=xB h
 obtain⟨h1,h2,h3,h4⟩:=hw.els
 obtain⟨v,rfl,hv⟩:=jL (f:=D.int .i64) (Q:=fun x=> -9223372036854775808≤x∧x≤9223372036854775807) (els:=els) fun d hd=>by
  obtain⟨x,rfl⟩:=eh (uA (h3 ⟨false,[.int .i64]⟩ rfl d hd))
  have:=(h4 _ hd).KZ
  simp[IntKind.min,IntKind.max,IntKind.signed,IntKind.bits]at this
  exact⟨x,rfl,this⟩
 exact⟨nb,v,rfl,fun h=>by simpa using h2 h,by simpa using h1,hv⟩
theorem tw {n:Int} (h:WT ty (.int .u64 n)):∃ m:Nat,n=(m:Int)∧m<18446744073709551616:=by
 have:=h.KZ
 simp[IntKind.min,IntKind.max,IntKind.signed,IntKind.bits]at this
 exact⟨n.toNat,by omega,by omega⟩
theorem FX {d:D} (h:Vk.fits ⟨true,[.int .u8,.int .u64,.int .u64,.int .i64]⟩ d=true) (hw:WT ty d):∃ p:Px,d=p.d∧fE p.h p.l:=by
 obtain⟨cs,rfl,h⟩:=uB h
 obtain⟨d1,cs,rfl,h1,h⟩:=cA h
 obtain⟨d2,cs,rfl,h2,h⟩:=cA h
 obtain⟨d3,cs,rfl,h3,h⟩:=cA h
 obtain⟨d4,cs,rfl,h4,h⟩:=cA h
 obtain rfl:=re h
 obtain⟨f,rfl⟩:=eh h1
 obtain⟨hh,rfl⟩:=eh h2
 obtain⟨l,rfl⟩:=eh h3
 obtain⟨n,rfl⟩:=eh h4
 obtain⟨hh,rfl,b1⟩:=tw (hw.cells _ (by simp:D.int .u64 hh∈_))
 obtain⟨l,rfl,b2⟩:=tw (hw.cells _ (by simp:D.int .u64 l∈_))
 exact⟨⟨f,hh,l,n⟩,rfl,b1,b2⟩
end Go.Proofs.Ytkfnkiejikhglaa.Own
namespace Go.Proofs.Ytkfnkiejikhglaa.Own
open Go Go.Proofs.Ytkfnkiejikhglaa.GD Go.Proofs.Ytkfnkiejikhglaa.GD.Trie Go.Sort
theorem vf (n1 n2:Bool) (a b:List Int) (hl:a.length≤9223372036854775807):Cl ty tab 45 [.sl 3 n1 (iv a),.sl 3 n2 (iv b)]=some [.bool (decide (a=b))]:=by
 obtain⟨k,hk⟩:=cP
 refine g9 k _ _ _ _ ?_
 unfold aW
 have h1:(iv a).length=a.length:=by simp
 have h2:(iv b).length=b.length:=by simp
 by_cases he:a.length=b.length
 ·have:=cS (F:=aW.b0 (Cl ty tab) k (iv a) (iv b)) a.length (fun i=>[.int .i64 i]) (fun i=>some [.bool (decide (a.drop i=b.drop i))]) (fun i hi again ha=> ?_) (fun again=> ?_) k (by omega) 0 (by omega)
  ·rw[List.drop_zero,List.drop_zero]at this
   simp (disch:=omega) only[aA,h1,h2,he,ne_eq,not_true_eq_false]
   simpa using this
  ·unfold aW.b0
   rw[ou hi (by omega)]
   have g1:=tu hi
   have g2:=tu (show i<b.length by omega)
   by_cases hx:a[i]=b[i]
   ·have hlt:(i:Int)<((b.length:Nat):Int):=by omega
    simp (disch:=omega) only[aA,h1,h2,g1,g2,hx,ne_eq,not_true_eq_false,Int.natCast_add,Int.natCast_one]at ha⊢
    exact ha
   ·simp (disch:=omega) only[aA,h1,h2,g1,g2,hx,ne_eq,not_false_eq_true]
  ·unfold aW.b0
   have:b.drop a.length=[]:=List.drop_eq_nil_of_le (by omega)
   rw[List.drop_length,this]
   simp (disch:=omega) only[aA,h1,h2]
 ·have hne: ¬a=b:=fun h=>he (by rw[h])
  have: ¬((a.length:Nat):Int)=((b.length:Nat):Int):=by omega
  simp (disch:=omega) only[aA,h1,h2,this,hne,ne_eq,not_false_eq_true]
def Er.core (x:Er):Px×List Int:=(x.px,x.vs)
theorem Eg (x y:Er):(decide (x.f=y.f)&&(decide ((x.h:Int)=y.h)&&(decide ((x.l:Int)=y.l)&&decide (x.n=y.n))))=decide (x.px=y.px):=by
 simp only[←Bool.decide_and]
 apply decide_eq_decide.2
 simp only[Er.px,Px.mk.injEq,Int.ofNat_inj]
theorem qh (n1 n2:Bool) (a b:List Er) (hl:a.length≤9223372036854775807) (hv:∀ x,x∈a→x.vs.length≤9223372036854775807):Cl ty tab 17 [.sl 49 n1 (a.map aw),.sl 49 n2 (b.map aw)]=some [.bool (decide (a.map Er.core=b.map Er.core))]:=by
 obtain⟨k,hk⟩:=cP
 refine fC k _ _ _ _ ?_
 unfold aO
 have h1:(a.map aw).length=a.length:=by simp
 have h2:(b.map aw).length=b.length:=by simp
 by_cases he:a.length=b.length
 ·have:=cS (F:=aO.b0 (Cl ty tab) k (a.map aw) (b.map aw)) a.length (fun i=>[.int .i64 i]) (fun i=>some [.bool (decide ((a.map Er.core).drop i=(b.map Er.core).drop i))]) (fun i hi again ha=> ?_) (fun again=> ?_) k (by omega) 0 (by omega)
  ·rw[List.drop_zero,List.drop_zero]at this
   simp (disch:=omega) only[aA,h1,h2,he,ne_eq,not_true_eq_false]
   simpa using this
  ·unfold aO.b0
   rw[ou (by simpa using hi) (by simpa using (by omega:i<b.length))]
   rw[List.getElem_map,List.getElem_map]
   have K8:=hv a[i] (List.getElem_mem hi)
   have g1:(a.map aw).getD i .undef=aw a[i]:=bo hi
   have g2:(b.map aw).getD i .undef=aw b[i]:=bo (by omega)
   have hs:=vf a[i].nb b[i].nb a[i].vs b[i].vs K8
   have hp:=Eg a[i] b[i]
   have hlt:(i:Int)<((b.length:Nat):Int):=by omega
   have iE:(i:Int)<((a.length:Nat):Int):=by omega
   generalize a[i]=x at*
   generalize b[i]=y at*
   have Ar:decide (x.core=y.core)=(decide (x.px=y.px)&&decide (x.vs=y.vs)):=by simp[Er.core]
   rw[Ar]
   by_cases hx:x.px=y.px
   ·rw[decide_eq_true hx]at hp
    by_cases hy:x.vs=y.vs
    ·rw[decide_eq_true hy,hy]at hs
     simp (disch:=omega) only[aA,h1,h2,g1,g2,enc,hp,hs,hx,hy,Int.natCast_add,Int.natCast_one]at ha⊢
     exact ha
    ·rw[decide_eq_false hy]at hs
     simp (disch:=omega) only[aA,h1,h2,g1,g2,enc,hp,hs,hx,hy]
   ·rw[decide_eq_false hx]at hp
    simp (disch:=omega) only[aA,h1,h2,g1,g2,enc,hp,hx]
  ·unfold aO.b0
   have e1:(a.map Er.core).drop a.length=[]:=List.drop_eq_nil_of_le (by simp)
   have e2:(b.map Er.core).drop a.length=[]:=List.drop_eq_nil_of_le (by simp;omega)
   rw[e1,e2]
   simp (disch:=omega) only[aA,h1,h2]
 ·have hne: ¬a.map Er.core=b.map Er.core:=fun h=>he (by have:=congrArg List.length h;simpa using this)
  have: ¬((a.length:Nat):Int)=((b.length:Nat):Int):=by omega
  simp (disch:=omega) only[aA,h1,h2,this,hne,ne_eq,not_false_eq_true]
end Go.Proofs.Ytkfnkiejikhglaa.Own
