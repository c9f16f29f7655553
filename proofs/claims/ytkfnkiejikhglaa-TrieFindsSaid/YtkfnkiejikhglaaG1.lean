/- A value-level interpreter of the translated code, with the proof that it is sound: part 1. -/
import GoSem.Dispatch
import Derived.Orders
import Derived.Laws.AppendOwn
import Derived.Laws.OwnMore
import Derived.Laws.World
import Derived.Laws.StructEq
import Derived.Laws.Strings
import Derived.Laws.Tables
import Derived.Laws.Slices
import Derived.Laws.MakeOwn
import Derived.Laws.IdiomStrings
import Derived.Laws.BytesArg
import Derived.TacticsIn
import Derived.OrdersIn
import Derived.RangeFuncRecord
import Derived.RangeFuncIn
import Derived.MapKept
import Derived.Carry
import Derived.Tactics
import Derived.ControlIn
import Derived.Scope
import Derived.RangeFuncLeaves
import Derived.Below
import Derived.ChangeArms
import Derived.SizedLaws
import Derived.ChangeShapes
import Derived.ChangeOld
import Derived.OpenShut
import Derived.JoinedOf
set_option linter.unusedVariables false
set_option linter.unusedSimpArgs false
namespace Go.Proofs.Ytkfnkiejikhglaa.GD
open Go
section
theorem zq1 {α : Type} {l : List α} {i : Nat} {a : α} : l.getD i a = l[i]?.getD a := List.getD_eq_getElem?_getD
theorem zq2 {α : Type} {xs : Array α} {i : Nat} {d : α} : xs.getD i d = xs[i]?.getD d := Array.getD_eq_getD_getElem?
theorem zq3 (a b : Bool) : ((a && b) = true) = (a = true ∧ b = true) := Bool.and_eq_true a b
theorem zq4 {α : Type} {l : List α} {i : Nat} (h : i < l.length) : l[i]? = some l[i] := List.getElem?_eq_getElem h
theorem zq5 {α : Type} (a b : α) : (some a = some b) = (a = b) := Option.some.injEq a b
theorem zq6 {α : Type} {l : List α} {i : Nat} {a : α} : l[i]? = some a ↔ ∃ h : i < l.length, l[i] = a := List.getElem?_eq_some_iff
inductive D where
 |undef
 |int (k:IntKind) (n:Int)
 |bool (b:Bool)
 |str (s:ByteArray)
 |sl (e:TypeId) (nb:Bool) (els:List D)
 |zs (e:TypeId) (nb:Bool)
 |agg (cs:List D)
 |fn (f:FuncId) (caps:List D)
 |nilfn
 |rp (cs:List D) (off:Nat)
 |tup (ds:List D)
 |own (e:TypeId) (id len:Nat)
 |ownv (e:TypeId) (id off len:Nat)
 |ptr (id off:Nat)
 |ela (b:D) (i:Nat) (off:Nat)
 |ov (e:TypeId) (nb:Bool) (els:List D)
 |pv (cs:List D)
 |elp (id lo n i:Nat)
 |mo (id:Nat)
 |mpv (ks vs:List D)
 |elaP (b:D) (i lo n j:Nat)
 |mpl (ks vs:List D)
 |fnr (f:FuncId) (ids:List Nat)
 |yl (id:Nat)
 deriving Inhabited
def D.i:D→Int | .int _ n=>n |_=>0
def D.b:D→Bool | .bool b=>b |_=>false
def D.s:D→ByteArray | .str s=>s |_=>⟨#[]⟩
def D.nb:D→Bool | .sl _ b _=>b | .ov _ b _=>b |_=>false
def D.els:D→List D | .sl _ _ l=>l | .ov _ _ l=>l |_=>[]
def D.cs:D→List D | .agg l=>l | .pv l=>l |_=>[]
def D.cell:D→Nat→D
 | .agg l,j=>l.getD j .undef
 |d,0=>d
 |_,_+1=> .undef
def D.mks:D→List D | .mpv ks _=>ks |_=>[]
def D.mvs:D→List D | .mpv _ vs=>vs |_=>[]
def D.caps:D→List D | .fn _ c=>c |_=>[]
def D.fi:D→FuncId
 | .fn f _=>f
 |_=>0
inductive Sk where
 |int (k:IntKind) |bool |str |sl (e:TypeId) |fn |IA (f:FuncId) |GJ (f:FuncId)
 deriving DecidableEq,Inhabited
def eta:Sk→D→D
 | .int k,d=> .int k d.i
 | .bool,d=> .bool d.b
 | .str,d=> .str d.s
 | .sl e,d=> .sl e d.nb d.els
 | .fn,d=> .fn d.fi []
 | .IA f,_=> .fn f []
 | .GJ f,d=> .fn f d.caps
def fits:Sk→D→Bool
 | .int k,.int k' _=>k=k'
 | .bool,.bool _=>true
 | .str,.str _=>true
 | .sl e,.sl e' _ _=>e=e'
 | .fn,.fn _ c=>c.isEmpty
 | .IA f,.fn g c=>Nat.beq f g&&c.isEmpty
 | .GJ f,.fn g _=>Nat.beq f g
 |_,_=>false
def fitsL:List Sk→List D→Bool
 |[],[]=>true
 |k::ks,d::ds=>fits k d&&fitsL ks ds
 |_,_=>false
structure Vk where
 agg:Bool
 ks:List Sk
 deriving DecidableEq,Inhabited
def Vk.fits (k:Vk) (d:D):Bool:=
 match k.agg,d with
 |true,.agg ds=>fitsL k.ks ds
 |false,d=>fitsL k.ks [d]
 |_,_=>false
def ck:List Sk→D→Nat→List D
 |[],_,_=>[]
 |k::ks,d,j=>eta k (d.cell j)::ck ks d (j+1)
def fZ:List Sk→List D→Nat→List D
 |[],_,_=>[]
 |k::ks,l,j=>eta k (l.getD j .undef)::fZ ks l (j+1)
def etaV (k:Vk) (d:D) (off:Nat):D:=
 match k.agg with
 |true=> .agg (ck k.ks d off)
 |false=>match k.ks with |[s]=>eta s (d.cell off) |_=> .undef
inductive Opd where
 |t (n:Nat)
 |c (d:D)
 deriving Inhabited
inductive Obj where
 |dead
 |gone
 |arr (e:TypeId) (nb:Bool) (els:List D)
 |fro (e:TypeId) (nb:Bool) (els:List D)
 |var (cs:List D)
 |frv (cs:List D)
 |mp (k e:Vk) (ks vs:List D)
 deriving Inhabited
structure St where
 ts:List D
 os:List Obj
def Opd.val (ts:List D):Opd→D
 | .t n=>ts.getD n .undef
 | .c d=>d
inductive Am where
 |p
 |g (e:TypeId)
 |m (e:TypeId)
 |v (ks:List Sk)
 deriving DecidableEq,Inhabited
inductive Rm where
 |p (k:Vk)
 |o (e:TypeId)
 deriving DecidableEq,Inhabited
structure BK where
 am:List Am
 rm:List Rm
structure Env where
 ty:TypeId→Option Vk
 sig:FuncId→Option BK
 call:FuncId→List D→Option (List D)
 wty:FuncId→Option TypeId
 yld:Option (TypeId×(List D→Option (List D)))
abbrev Wr:=List (Nat×Obj)
abbrev Vw:=Nat→Obj
def jD (os:Vw):D→Option (TypeId×List D)
 | .sl e _ l=>some (e,l)
 | .zs e _=>some (e,[])
 | .own _ id _=>match os id with | .arr e _ l=>some (e,l) | .fro e _ l=>some (e,l) |_=>none
 | .ownv _ id off len=>match os id with | .arr e _ l=>some (e,(l.drop off).take len) | .fro e _ l=>some (e,(l.drop off).take len) |_=>none
 |_=>none
def oK (E:Env) (e:TypeId) (off:Nat) (k:Vk):Bool:=
 match E.ty e with
 |some el=>Nat.ble (off+k.ks.length) el.ks.length&&(el.ks.drop off).take k.ks.length==k.ks&&(k.agg ||k.ks.length==1)
 |none=>false
def ny (E:Env) (e:TypeId) (lo n:Nat) (k:Vk):Bool:=
 match E.ty e with
 |some el=>Nat.ble (lo+n) el.ks.length&&((el.ks.drop lo).take n).all (fun s=>k.ks==[s])&& !k.agg
 |none=>false
def jE:D→Option Nat
 | .sl _ _ l=>some l.length
 | .zs _ _=>some 0
 | .own _ _ len=>some len
 | .ownv _ _ _ len=>some len
 |_=>none
def Ap:D→Option Nat
 | .str s=>some s.size
 |d=>jE d
def vM (os:Vw):D→Option Bool
 | .sl _ nb _=>some nb
 | .zs _ nb=>some nb
 | .own _ id _=>match os id with | .arr _ nb _=>some nb | .fro _ nb _=>some nb |_=>none
 |_=>none
def cA (os:Vw):D→D×Wr
 | .own _ id _=>match os id with
  | .arr e nb l=>(.sl e nb l,[(id,.fro e nb l)])
  | .fro e nb l=>(.sl e nb l,[])
  |_=>(.undef,[])
 | .ownv _ id off len=>match os id with
  | .arr e nb l=>(.sl e nb ((l.drop off).take len),[(id,.fro e nb l)])
  | .fro e nb l=>(.sl e nb ((l.drop off).take len),[])
  |_=>(.undef,[])
 | .zs e nb=>(.sl e nb [],[])
 |d=>(d,[])
def frzL (os:Vw):List D→List D×Wr
 |[]=>([],[])
 |d::ds=>let p:=cA os d;let q:=frzL os ds;(p.1::q.1,p.2++q.2)
def dJ:D→D
 | .zs e nb=> .sl e nb []
 |d=>d
def frz (os:Vw):D→D×Wr
 | .agg cs=>let p:=frzL os cs;(.agg p.1,p.2)
 | .ptr id off=>match os id with
  | .var cs=>(.rp (cs.map dJ) off,[(id,.frv (cs.map dJ))])
  | .frv cs=>(.rp cs off,[])
  |_=>(.undef,[])
 |d=>cA os d
def pure0:D→Bool
 | .int .. | .bool _ | .str _ | .sl .. | .fn .. | .nilfn | .rp .. | .mpl .. =>true
 |_=>false
def rpOk:D→Bool
 | .rp cs _=>cs.all pure0
 |_=>true
def pureD:D→Bool
 | .agg cs=>cs.all pure0
 |d=>pure0 d&&rpOk d
def cell0:D→Bool
 | .zs .. | .own .. | .fnr .. =>true
 |d=>pure0 d
def cellsOf:D→List D
 | .agg cs=>cs
 |d=>[d]
def bD (cs:List D) (off:Nat):List D→List D
 |[]=>cs
 |d::ds=>bD (cs.set off d) (off+1) ds
inductive vN where
 |mv
 |pick
 |alloc (site:Nat) (zero:List D)
 |box (site:Nat)
 |build (zero:List D) (parts:List (Nat×Nat))
 |bn (site:Nat) (e:TypeId)
 |load (k:Vk)
 |store (k:Vk)
 |bin (op:BinOp)
 |eqv (neg:Bool) (k:Vk)
 |qG (neg:Bool)
 |not
 |neg
 |conv (k:IntKind)
 |bytes (e:TypeId)
 |slice (e:Option TypeId) (lo hi mx:Bool)
 |aR (off:Nat)
 |part (k:Vk) (off:Nat)
 |Aq
 |DM (k:Vk) (n:Nat)
 |aA (e:TypeId)
 |Ar (n:Nat)
 |gV
 |qH (e:TypeId)
 |ext (j:Nat)
 |len
 |FF
 |append (site:Nat) (e:TypeId) (bytes:Nat)
 |copy (e:TypeId)
 |clear (e:TypeId) (zero:D)
 |call (br:List Nat)
 |xR (f:FuncId)
 |BR (site:Nat) (e:TypeId) (zero:D) (bytes:Nat)
 |mn
 |mx
 |mkMap (site:Nat) (k e:Vk)
 |As (k e:Vk) (zero:D) (ok:Bool)
 |At (k e:Vk)
 |mZ (e:TypeId) (n:Nat)
 |BS
 |BT (k:Vk)
 |FG
 |BU
 |BV (f:FuncId)
 |ku (site row:Nat)
 |qI (e:Option TypeId) (lo hi:Bool)
 |yld (site row:Nat)
 |bad
 deriving Inhabited
def refsb:D→List Nat
 | .mo id=>[id]
 | .own _ id _=>[id]
 | .ownv _ id _ _=>[id]
 |_=>[]
def refs0:D→List Nat
 | .ptr id _=>[id]
 | .elp id _ _ _=>[id]
 | .ela b _ _=>refsb b
 | .elaP b _ _ _ _=>refsb b
 | .fnr _ ids=>ids
 | .yl id=>[id]
 |d=>refsb d
def refsL (ds:List D):List Nat:=ds.flatMap refs0
def refs1:D→List Nat
 | .agg cs=>refsL cs
 |d=>refs0 d
def refsD:D→List Nat
 | .tup ds=>ds.flatMap refs1
 |d=>refs1 d
def nodupB:List Nat→Bool
 |[]=>true
 |x::xs=> !xs.contains x&&nodupB xs
def apart (xs ys:List Nat):Bool:=xs.all fun x=> !ys.contains x
section eff
variable {R:Type} (K:D→Wr→Option R)
def qJ (op:BinOp) (k:IntKind) (a b:Int):Option R:=
 match op with
 | .add=>K (.int k (k.wrap (a+b))) []
 | .sub=>K (.int k (k.wrap (a - b))) []
 | .mul=>K (.int k (k.wrap (a*b))) []
 | .quo=>if b=0 then none else K (.int k (k.wrap (a.tdiv b))) []
 | .rem=>if b=0 then none else K (.int k (a.tmod b)) []
 | .and=>K (.int k (k.wrap (BitVec.ofInt k.bits a&&&BitVec.ofInt k.bits b).toNat)) []
 | .or=>K (.int k (k.wrap (BitVec.ofInt k.bits a |||BitVec.ofInt k.bits b).toNat)) []
 | .xor=>K (.int k (k.wrap (BitVec.ofInt k.bits a^^^BitVec.ofInt k.bits b).toNat)) []
 | .andNot=>K (.int k (k.wrap (BitVec.ofInt k.bits a&&&~~~(BitVec.ofInt k.bits b)).toNat)) []
 | .eql=>K (.bool (a==b)) []
 | .neq=>K (.bool (a !=b)) []
 | .lss=>K (.bool (decide (a<b))) []
 | .leq=>K (.bool (decide (a≤b))) []
 | .gtr=>K (.bool (decide (b<a))) []
 | .geq=>K (.bool (decide (b≤a))) []
 |_=>none
def s9 (op:BinOp) (k:IntKind) (a b:Int):Option R:=
 match op with
 | .shl=>if b<0 then none else K (.int k (k.wrap (a*2^(min b.toNat k.bits)))) []
 | .shr=>if b<0 then none else K (.int k (a.fdiv (2^(min b.toNat k.bits)))) []
 |_=>none
def qK (op:BinOp) (a b:ByteArray):Option R:=
 match op with
 | .add=>if ((a.size+b.size:Nat):Int)>IntKind.i64.max then none else K (.str (a++b)) []
 | .eql=>K (.bool (a.toList==b.toList)) []
 | .neq=>K (.bool (!(a.toList==b.toList))) []
 | .lss=>K (.bool (Op.bytesLess a.toList b.toList)) []
 | .leq=>K (.bool (Op.bytesLess a.toList b.toList ||a.toList==b.toList)) []
 | .gtr=>K (.bool (!(Op.bytesLess a.toList b.toList ||a.toList==b.toList))) []
 | .geq=>K (.bool (!(Op.bytesLess a.toList b.toList))) []
 |_=>none
def DN:BinOp→Bool | .shl | .shr=>true |_=>false
def Au (op:BinOp):List D→Option R
 |[.int k a,.int k' b]=>match DN op with
  |true=>s9 K op k a b
  |false=>if k=k' then qJ K op k a b else none
 |[.str a,.str b]=>qK K op a b
 |_=>none
def vO:D→D→Option Bool
 | .int k a,.int k' b=>if k=k' then some (a==b)else none
 | .bool a,.bool b=>some (a==b)
 | .str a,.str b=>some (a.toList==b.toList)
 |_,_=>none
def oH:List D→List D→Option Bool
 |[],[]=>some true
 |x::xs,y::ys=>match vO x y with
  |some p=>match xs,ys with
   |[],[]=>some p
   |xs,ys=>match oH xs ys with
    |some q=>some (p&&q)
    |none=>none
  |none=>none
 |_,_=>none
def qe (a b:D):Bool:=(oH (cellsOf a) (cellsOf b)).getD false
def mC (x:D):List D→List D→Option D
 |k::ks,v::vs=>match qe x k with |true=>some v |false=>mC x ks vs
 |_,_=>none
def i9 (x:D):List D→List D
 |k::ks=>match qe x k with |true=>k::ks |false=>k::i9 x ks
 |[]=>[x]
def jF (x y:D):List D→List D→List D
 |k::ks,v::vs=>match qe x k with |true=>y::vs |false=>v::jF x y ks vs
 |_,_=>[y]
def qL (site:Nat) (k e:Vk):List D→Option R
 |[]=>K (.mo site) [(site,.mp k e [] [])]
 |_=>none
def s_ (k e:Vk) (z:D) (ok:Bool) (os:Vw):List D→Option R
 |[.mo id,x]=>match os id with
  | .mp k' e' ks vs=>match decide (k'=k)&&decide (e'=e)&&k.fits x with
   |true=>match ok with
    |true=>K (.tup [etaV e ((mC x ks vs).getD z) 0,.bool (mC x ks vs).isSome]) []
    |false=>K (etaV e ((mC x ks vs).getD z) 0) []
   |false=>none
  |_=>none
 |_=>none
def ta (k e:Vk) (os:Vw):List D→Option R
 |[.mo id,x,v]=>match os id with
  | .mp k' e' ks vs=>match decide (k'=k)&&decide (e'=e)&&k.fits x&&e.fits v with
   |true=>K (.tup []) [(id,.mp k e (i9 x ks) (jF x v ks vs))]
   |false=>none
  |_=>none
 |_=>none
def EZ (x:D):List D→List D
 |k::ks=>match qe x k with |true=>ks |false=>k::EZ x ks
 |[]=>[]
def E0 (x:D):List D→List D→List D
 |k::ks,v::vs=>match qe x k with |true=>vs |false=>v::E0 x ks vs
 |_,_=>[]
def zn (os:Vw):List D→Option R
 |[.mo id]=>match os id with
  | .mp _ _ ks _=>K (.int .i64 ks.length) []
  |_=>none
 |_=>none
def zo (k:Vk) (os:Vw):List D→Option R
 |[.mo id,x]=>match os id with
  | .mp k' e ks vs=>match decide (k'=k)&&k.fits x with
   |true=>K (.tup []) [(id,.mp k e (EZ x ks) (E0 x ks vs))]
   |false=>none
  |_=>none
 |_=>none
def zq (os:Vw):List D→Option R
 |[.mo id]=>match os id with
  | .mp _ _ ks vs=>K (.mpl ks vs) [(id,.gone)]
  |_=>none
 |_=>none
def xS (neg b:Bool):Bool:=match neg with |true=> !b |false=>b
def Av (neg:Bool) (k:Vk):List D→Option R
 |[x,y]=>match k.fits x&&k.fits y with
  |true=>match oH (cellsOf x) (cellsOf y)with
   |some b=>K (.bool (xS neg b)) []
   |none=>none
  |false=>none
 |_=>none
def oL (neg:Bool) (os:Vw):List D→Option R
 |[x]=>match vM os x with
  |some b=>K (.bool (xS neg b)) []
  |none=>none
 |_=>none
def vP:List D→Option R
 |[.bool c,a,b]=>match c with |true=>K a [] |false=>K b []
 |_=>none
def jV (zero:List D):List (Nat×Nat)→List D→Option R
 |[],[]=>K (.agg zero) []
 |(off,n)::ps,d::ds=>match (cellsOf d).all cell0&&(cellsOf d).length==n&&Nat.ble (off+n) zero.length with
  |true=>jV (bD zero off (cellsOf d)) ps ds
  |false=>none
 |_,_=>none
def iw (k:Vk) (off:Nat) (cs:List D):Option R:=
 match Nat.ble (off+k.ks.length) cs.length with
 |true=>match k.agg with
  |true=>K (.agg ((cs.drop off).take k.ks.length)) []
  |false=>K (cs.getD off .undef) []
 |false=>none
def m0 (k:Vk) (lo n i:Nat) (cs:List D):Option R:=
 match k.agg,k.ks with
 |false,[s]=>match Nat.ble (lo+n) cs.length&&((cs.drop lo).take n).all (fits s)with
  |true=>K (eta s (cs.getD (lo+i) .undef)) []
  |false=>none
 |_,_=>none
def tc (s:Sk) (lo n i:Nat) (v:D):List D→Nat→List D
 |[],_=>[]
 |c::cs,j=>(match Nat.ble lo j&&Nat.blt j (lo+n)with |true=>eta s (bif Nat.beq (lo+i) j then v else c) |false=>c)::tc s lo n i v cs (j+1)
def gW (E:Env) (k:Vk) (os:Vw):List D→Option R
 |[.elp id lo n i]=>match os id with
  | .var cs=>m0 K k lo n i cs
  | .frv cs=>m0 K k lo n i cs
  |_=>none
 |[.ela b i off]=>match jD os b with
  |some (e,l)=>match oK E e off k with
   |true=>K (etaV k (l.getD i .undef) off) []
   |false=>none
  |none=>none
 |[.elaP b i lo n j]=>match jD os b with
  |some (e,l)=>match ny E e lo n k with
   |true=>K (etaV k (l.getD i .undef) (lo+j)) []
   |false=>none
  |none=>none
 |[.ptr id off]=>match os id with
  | .var cs=>iw K k off cs
  | .frv cs=>iw K k off cs
  |_=>none
 |[.rp cs off]=>iw K k off cs
 |_=>none
def f9 (k el:Vk) (d:D) (off:Nat) (v:D):D:=
 match el.agg with
 |false=>v
 |true=>if off=0∧k.agg=true∧k.ks.length=el.ks.length then v else .agg (bD (ck el.ks d 0) off (cellsOf v))
def fc (E:Env) (k:Vk) (os:Vw) (id j off:Nat) (v:D):Option R:=
 let p:=frz os v
 match os id with
 | .arr e nb l=>match E.ty e with
  |some el=>match k.fits p.1&&oK E e off k&&(el.agg || !k.agg)&&p.2.all (fun q=> !(Nat.beq q.1 id))with
   |true=>K (.tup []) (p.2++[(id,.arr e nb (l.set j (f9 k el (l.getD j .undef) off p.1)))])
   |false=>none
  |none=>none
 |_=>none
def kX (E:Env) (k:Vk) (os:Vw):List D→Option R
 |[.elp id lo n i,v]=>match os id with
  | .var cs=>match k.agg,k.ks with
   |false,[s]=>match fits s v&&(Nat.ble (lo+n) cs.length&&((cs.drop lo).take n).all (fits s))with
    |true=>K (.tup []) [(id,.var (tc s lo n i v cs 0))]
    |false=>none
   |_,_=>none
  |_=>none
 |[.ela (.own _ id _) i off,v]=>fc K E k os id i off v
 |[.ela (.ownv _ id o _) i off,v]=>fc K E k os id (o+i) off v
 |[.ptr id off,v]=>match os id with
  | .var cs=>match (cellsOf v).all cell0&&(cellsOf v).length==k.ks.length&&Nat.ble (off+k.ks.length) cs.length with
   |true=>K (.tup []) [(id,.var (bD cs off (cellsOf v)))]
   |false=>none
  |_=>none
 |_=>none
def vQ:D→Option TypeId
 | .sl e _ _=>some e
 | .zs e _=>some e
 | .own e _ _=>some e
 | .ownv e _ _ _=>some e
 |_=>none
def BW (n:Nat):Bool→Bool→List D→Option (Int×Int)
 |false,false,[]=>some (0,n)
 |true,false,[.int _ a]=>some (a,n)
 |false,true,[.int _ b]=>some (0,b)
 |true,true,[.int _ a,.int _ b]=>some (a,b)
 |_,_,_=>none
def sM (l h:Int) (os:Vw):D→Option R
 | .sl e nb els=>if 0≤l∧l≤h∧h≤(els.length:Nat)then K (.sl e nb ((els.drop l.toNat).take (h.toNat - l.toNat))) []else none
 | .own e id n=>if 0≤l∧l≤h∧h≤(n:Nat)then K (.ownv e id l.toNat (h.toNat - l.toNat)) []else none
 | .ownv e id o _=>match os id with
  | .arr _ _ els=>if 0≤l∧l≤h∧((o:Nat):Int)+h≤(els.length:Nat)then K (.ownv e id (o+l.toNat) (h.toNat - l.toNat)) []else none
  | .fro _ _ els=>if 0≤l∧l≤h∧((o:Nat):Int)+h≤(els.length:Nat)then K (.ownv e id (o+l.toNat) (h.toNat - l.toNat)) []else none
  |_=>none
 | .str s=>if 0≤l∧l≤h∧h≤(s.size:Nat)then K (.str (s.extract l.toNat h.toNat)) []else none
 |_=>none
def nz (os:Vw):D→Option R
 | .sl e nb _=>K (.zs e nb) []
 | .own _ id _=>match os id with
  | .arr e nb _=>K (.zs e nb) []
  | .fro e nb _=>K (.zs e nb) []
  |_=>none
 |_=>none
def jW (te:Option TypeId) (lo hi mx:Bool) (os:Vw):List D→Option R
 |[]=>none
 |x::bs=>
  match te==vQ x with
  |false=>none
  |true=>match mx with
   |true=>match bs with
    |[.int _ a,.int _ b,.int _ c]=>if a=0∧b=0∧c=0 then nz K os x else match jE x with
     |some n=>if 0≤a∧a≤b∧b≤c∧c≤(n:Nat)then K .undef []else none
     |none=>none
    |_=>none
   |false=>match Ap x with
    |some n=>match BW n lo hi bs with
     |some (l,h)=>sM K l h os x
     |none=>none
    |none=>none
def qt (te:Option TypeId) (lo hi:Bool) (os:Vw) (l:List D):Option R:=
 jW (fun v ws=>match ws,frz os v with |[],(.sl e nb els,ws')=>K (.sl e nb els) ws' |_,_=>none) te lo hi false os l
def qM (off:Nat):List D→Option R
 |[.ela b i o]=>K (.ela b i (o+off)) []
 |[.ptr id o]=>K (.ptr id (o+off)) []
 |[.rp cs o]=>K (.rp cs (o+off)) []
 |_=>none
def zr (k:Vk) (off:Nat):List D→Option R
 |[.agg cs]=>iw K k off cs
 |_=>none
def tf:List D→Option R
 |[.str s,.int _ i]=>if 0≤i∧i<s.size then K (.int .u8 (s.get! i.toNat).toNat) []else none
 |_=>none
def zt (k:Vk) (n:Nat):List D→Option R
 |[.agg cs,.int _ i]=>match k.agg,k.ks with
  |false,[s]=>match Nat.ble n cs.length&&cs.all (fits s)with
   |true=>if 0≤i∧i<(n:Int)then K (eta s (cs.getD i.toNat .undef)) []else none
   |false=>none
  |_,_=>none
 |_=>none
def tg (n:Nat):List D→Option R
 |[.ptr id o,.int _ i]=>if 0≤i∧i<(n:Int)then K (.elp id o n i.toNat) []else none
 |[.ela b j o,.int _ i]=>if 0≤i∧i<(n:Int)then K (.elaP b j o n i.toNat) []else none
 |_=>none
def lW (E:Env) (e:TypeId) (n:Nat) (os:Vw):List D→Option R
 |[x]=>match (frz os x).1 with
  | .rp cs off=>match E.ty e with
   |some ⟨false,[s]⟩=>match pureD (.rp cs off)&&Nat.ble (off+n) cs.length&&((cs.drop off).take n).all (fits s)with
    |true=>K (.sl e false ((cs.drop off).take n)) (frz os x).2
    |false=>none
   |_=>none
  |_=>none
 |_=>none
def oM:List D→Option R
 |[.ptr id o]=>K (.ptr id o) []
 |[.rp cs o]=>K (.rp cs o) []
 |_=>none
def oN (E:Env) (e:TypeId) (os:Vw):List D→Option R
 |[x]=>match jD os x with
  |some (e',l)=>match E.ty e with
   |some ⟨false,[.int .u8]⟩=>if e'=e then K (.str ⟨(l.map fun d=>UInt8.ofNat d.i.toNat).toArray⟩) []else none
   |_=>none
  |none=>none
 |_=>none
def th (e:TypeId):List D→Option R
 |[x,.int _ i]=>match vQ x,jE x with
  |some e',some n=>if e=e' then
    if 0≤i∧i<n then K (.ela x i.toNat 0) []else none
   else none
  |_,_=>none
 |_=>none
def eJ (E:Env) (os:Vw) (e:TypeId):D→Option (List D)
 | .str b=>match E.ty e with
  |some ⟨false,[.int .u8]⟩=>some (b.data.toList.map fun (c:UInt8)=>D.int .u8 c.toNat)
  |_=>none
 |x=>match jD os x with
  |some (e',l)=>if e=e' then some l else none
  |none=>none
def i_ (E:Env) (site:Nat) (e:TypeId) (bytes:Nat) (os:Vw):List D→Option R
 |[s,x]=>
  match eJ E os e x with
  |none=>none
  |some xs=>
   match s with
   | .own _ id _=>match os id with
    | .arr e' nb l=>if e=e' then
      if (l.length+xs.length)*bytes≤140737488355328 then K (.own e site (l.length+xs.length)) [(id,.gone),(site,.arr e (xs.isEmpty&&nb) (l++xs))]else none
     else none
    |_=>none
   | .zs e' nb=>if e=e' then
     if xs.length*bytes≤140737488355328 then K (.own e site xs.length) [(site,.arr e (xs.isEmpty&&nb) xs)]else none
    else none
   | .ownv _ id off len=>match os id with
    | .arr e' nb l=>if e=e' then
      if off+len+xs.length≤l.length then K (.ownv e id off (len+xs.length)) [(id,.arr e nb (l.take (off+len)++(xs++l.drop (off+len+xs.length))))]else none
     else none
    |_=>none
   |_=>none
 |_=>none
def ti (E:Env) (e:TypeId) (os:Vw):List D→Option R
 |[d,x]=>
  match eJ E os e x with
  |none=>none
  |some xs=>
   match d with
   | .own _ id _=>match os id with
    | .arr e' nb l=>if e=e' then K (.int .i64 (min xs.length l.length:Nat)) [(id,.arr e nb (xs.take l.length++l.drop (min xs.length l.length)))]else none
    |_=>none
   | .ownv _ id off len=>match os id with
    | .arr e' nb l=>if e=e' then K (.int .i64 (min xs.length len:Nat)) [(id,.arr e nb (l.take off++(xs.take len++l.drop (off+min xs.length len))))]else none
    |_=>none
   |_=>none
 |_=>none
def ur (e:TypeId) (zero:D) (os:Vw):List D→Option R
 |[.own _ id _]=>match os id with
  | .arr e' nb l=>if e=e' then K (.tup []) [(id,.arr e nb (List.replicate l.length zero))]else none
  |_=>none
 |[.ownv _ id off len]=>match os id with
  | .arr e' nb l=>if e=e' then K (.tup []) [(id,.arr e nb (l.take off++(List.replicate len zero++l.drop (off+len))))]else none
  |_=>none
 |_=>none
def b_ (os:Vw) (a:Am) (d:D):Option D:=
 match a with
 | .p=>match pureD (frz os d).1 with |true=>some (frz os d).1 |false=>none
 | .g e=>match d with
  | .own _ id _=>match os id with
   | .arr e' nb els=>if e=e' then some (.ov e nb els)else none
   |_=>none
  | .zs e' nb=>if e=e' then some (.ov e nb [])else none
  |_=>none
 | .m e=>match d with
  | .own _ id _=>match os id with
   | .arr e' nb els=>if e=e' then some (.ov e nb els)else none
   |_=>none
  |_=>none
 | .v ks=>match d with
  | .ptr id off=>match os id with
   | .var cs=>if off=0∧fitsL ks cs=true then some (.pv cs)else none
   |_=>none
  |_=>none
def pB (os:Vw):List Am→List D→Option (List D)
 |[],[]=>some []
 |a::as,d::ds=>match b_ os a d with
  |some x=>match pB os as ds with
   |some l=>some (x::l)
   |none=>none
  |none=>none
 |_,_=>none
def bv:Am→D→Option Nat
 | .g _,.own _ id _=>some id
 | .m _,.own _ id _=>some id
 | .v _,.ptr id _=>some id
 |_,_=>none
def dB:List Am→List D→List Nat
 |a::as,d::ds=>match bv a d with |some id=>id::dB as ds |none=>dB as ds
 |_,_=>[]
def dC:List Am→List D→Wr
 | .g _::as,.own _ id _::ds=>(id,.gone)::dC as ds
 |_::as,_::ds=>dC as ds
 |_,_=>[]
def cr (os:Vw):List Am→List D→Wr
 | .p::as,d::ds=>(frz os d).2++cr os as ds
 |_::as,_::ds=>cr os as ds
 |_,_=>[]
def oO:List Am→List D→List Nat
 | .p::as,d::ds=>refsD d++oO as ds
 |_::as,_::ds=>oO as ds
 |_,_=>[]
def bc (rs:List D):Nat→List Am→List D→Wr
 |n,.m e::as,.own _ id _::ds=>(id,.arr e (rs.getD n .undef).nb (rs.getD n .undef).els)::bc rs (n+1) as ds
 |n,.v ks::as,.ptr id _::ds=>(id,.var (fZ ks (rs.getD n .undef).cs 0))::bc rs (n+1) as ds
 |n,.p::as,_::ds=>bc rs n as ds
 |n,.g _::as,_::ds=>bc rs n as ds
 |_,_,_=>[]
def Sk.data:Sk→Bool | .fn=>false | .IA _=>false | .GJ _=>false |_=>true
def telling (ty:TypeId→Option Vk):Sk→Bool
 | .sl e=>match ty e with |some k=>k.ks.all Sk.data |none=>false
 |_=>true
def Sk.jq:Sk→Bool | .sl _=>false | .GJ _=>false |_=>true
def jq (E:Env):Rm→Bool
 | .p k=>k.ks.all Sk.jq
 | .o e=>match E.ty e with |some k=>k.ks.all Sk.jq |none=>false
def pC (E:Env):Am→Bool
 | .m e=>match E.ty e with |some k=>k.ks.all Sk.jq |none=>false
 | .v ks=>ks.all Sk.jq
 |_=>true
def sJ (E:Env) (sg:BK):Bool:=sg.rm.all (jq E)&&sg.am.all (pC E)
def aS (rs:List D):Nat→List Rm→List Nat→List D×Wr
 |n,.p k::rm,_::ss=>let q:=aS rs (n+1) rm ss;(etaV k (rs.getD n .undef) 0::q.1,q.2)
 |n,.o e::rm,s::ss=>let q:=aS rs (n+1) rm ss;(.own e s (rs.getD n .undef).els.length::q.1,(s,.arr e (rs.getD n .undef).nb (rs.getD n .undef).els)::q.2)
 |_,_,_=>([],[])
def vR:List D→D
 |[d]=>d
 |ds=> .tup ds
def pD (E:Env) (br:List Nat) (os:Vw):List D→Option R
 | .fn g caps::args=>
  match E.sig g with
  |none=>none
  |some sg=>
   match pB os sg.am (args++caps)with
   |none=>none
   |some l=>
    match nodupB (dB sg.am (args++caps))&&apart (oO sg.am (args++caps)) (dB sg.am (args++caps))&&Nat.beq br.length sg.rm.length&&nodupB br with
    |true=>(E.call g l).bind fun rs=>
     K (vR (aS rs 0 sg.rm br).1) ((match sJ E sg with |true=>[] |false=>cr os sg.am (args++caps))++(dC sg.am (args++caps)++((aS rs 0 sg.rm br).2++bc rs sg.rm.length sg.am (args++caps))))
    |false=>none
 |_=>none
def kY:List D→Option (List Nat)
 |[]=>some []
 | .ptr id 0::ds=>match kY ds with |some l=>some (id::l) |none=>none
 |_=>none
def vS (f:FuncId) (vals:List D):Option R:=
 match kY vals with
 |some ids=>K (.fnr f ids) []
 |none=>none
def nA (os:Vw) (e:TypeId):D→Option (Bool×List D×Wr)
 | .own e' id _=>match os id with
  | .arr e2 nb els=>if e'=e∧e2=e then some (nb,els,[(id,.gone)])else none
  |_=>none
 | .zs e' nb=>if e'=e then some (nb,[],[])else none
 |_=>none
def kZ (E:Env) (s row:Nat) (os:Vw):List D→Option R
 |[.fnr g [o,a],x]=>match E.wty g,os o,os a with
  |some e,.var [c],.var [.fnr g' [o',a']]=>match decide (g'=g∧o'=o∧a'=a∧o≠a)&&pureD x&&(match c with | .own _ id _=>Nat.beq id row&& !Nat.beq id o&& !Nat.beq id a |_=>true)with
   |true=>match nA os e c with
    |some (nb,els,ws)=>(E.call g [x,.ov e nb els]).bind fun rs=>
     K (.int .i64 ((rs.getD 0 .undef).cell 0).i) (ws++[(s,.arr e (rs.getD 1 .undef).nb (rs.getD 1 .undef).els),(o,.var [.own e s (rs.getD 1 .undef).els.length])])
    |none=>none
   |false=>none
  |_,_,_=>none
 |_=>none
def vT (E:Env) (s row:Nat) (os:Vw):List D→Option R
 |[.yl o,x]=>match E.yld,os o with
  |some (e,f),.var [c]=>match pureD x&&(match c with | .own _ id _=>Nat.beq id row&& !Nat.beq id o |_=>true)with
   |true=>match nA os e c with
    |some (nb,els,ws)=>(f [x,.ov e nb els]).bind fun rs=>
        K (.bool true) (ws++[(s,.arr e (rs.getD 0 .undef).nb (rs.getD 0 .undef).els),(o,.var [.own e s (rs.getD 0 .undef).els.length])])
    |none=>none
   |false=>none
  |_,_=>none
 |_=>none
def zu (site:Nat) (e:TypeId) (zero:D) (bytes:Nat):List D→Option R
 |[.int _ n,.int _ c]=>if 0≤n∧n≤c∧c*bytes≤140737488355328 then K (.own e site n.toNat) [(site,.arr e false (List.replicate n.toNat zero))]else none
 |_=>none
def IB (mx:Bool) (a b:Int):Int:=match mx with |true=>(if a<b then b else a) |false=>(if b<a then b else a)
def DO (mx:Bool):List D→Option R
 |[.int k a,.int k' b,.int KF c]=>if k=k'∧k=KF then K (.int k (IB mx (IB mx a b) c)) []else none
 |[.int k a,.int k' b]=>if k=k' then K (.int k (match mx with |true=>(if a<b then b else a) |false=>(if b<a then b else a))) []else none
 |_=>none
def cl (E:Env) (op:vN) (vals:List D) (os:Vw):Option R:=
 match op with
 | .mv=>match vals with |[x]=>K x [] |_=>none
 | .pick=>vP K vals
 | .alloc site zero=>match vals with |[]=>K (.ptr site 0) [(site,.var zero)] |_=>none
 | .box site=>match vals with
  |[x]=>match (cellsOf x).all cell0 with
   |true=>K (.ptr site 0) [(site,.var (cellsOf x))]
   |false=>none
  |_=>none
 | .FG=>match vals with
  |[x]=>match (cellsOf x).all pure0 with
   |true=>K (.rp (cellsOf x) 0) []
   |false=>none
  |_=>none
 | .build zero parts=>jV K zero parts vals
 | .bn site e=>match E.ty e with
  |some k=>match vals.all fun d=>k.fits (frz os d).1 with
   |true=>K (.own e site vals.length) ((vals.map fun d=>(frz os d).2).flatten++[(site,.arr e false (vals.map fun d=>(frz os d).1))])
   |false=>none
  |none=>none
 | .load k=>gW K E k os vals
 | .store k=>kX K E k os vals
 | .bin op=>Au K op vals
 | .eqv neg k=>Av K neg k vals
 | .qG neg=>oL K neg os vals
 | .not=>match vals with |[.bool b]=>K (.bool (!b)) [] |_=>none
 | .neg=>match vals with |[.int k n]=>K (.int k (k.wrap (0 - n))) [] |_=>none
 | .conv k=>match vals with |[.int _ n]=>K (.int k (k.wrap n)) [] |_=>none
 | .bytes e=>match vals with
  |[.str s]=>match E.ty e with
   |some ⟨false,[.int .u8]⟩=>K (.sl e false (s.data.toList.map fun (c:UInt8)=>D.int .u8 c.toNat)) []
   |_=>none
  |_=>none
 | .slice e lo hi mx=>jW K e lo hi mx os vals
 | .aR off=>qM K off vals
 | .part k off=>zr K k off vals
 | .Aq=>tf K vals
 | .DM k n=>zt K k n vals
 | .aA e=>th K e vals
 | .Ar n=>tg K n vals
 | .gV=>oM K vals
 | .qH e=>oN K E e os vals
 | .ext j=>match vals with
  |[.tup ds]=>match Nat.blt j ds.length with |true=>K (ds.getD j .undef) [] |false=>none
  |_=>none
 | .len=>match vals with
  |[x]=>match jE x with
   |some n=>K (.int .i64 n) []
   |none=>none
  |_=>none
 | .FF=>match vals with
  |[.str s]=>K (.int .i64 (s.size:Nat)) []
  |_=>none
 | .append site e bytes=>i_ K E site e bytes os vals
 | .copy e=>ti K E e os vals
 | .clear e zero=>ur K e zero os vals
 | .call br=>pD K E br os vals
 | .xR f=>match vals.all fun d=>pureD (frz os d).1 with
  |true=>K (.fn f (vals.map fun d=>(frz os d).1)) (vals.map fun d=>(frz os d).2).flatten
  |false=>none
 | .BR site e zero bytes=>zu K site e zero bytes vals
 | .mn=>DO K false vals
 | .mx=>DO K true vals
 | .mkMap s k e=>qL K s k e vals
 | .As k e z ok=>s_ K k e z ok os vals
 | .At k e=>ta K k e os vals
 | .mZ e n=>lW K E e n os vals
 | .BS=>zn K os vals
 | .BT k=>zo K k os vals
 | .BU=>zq K os vals
 | .BV f=>vS K f vals
 | .ku s r=>kZ K E s r os vals
 | .qI e lo hi=>qt K e lo hi os vals
 | .yld s r=>vT K E s r os vals
 | .bad=>none
end eff
def fN:vN→List Nat
 | .alloc s _=>[s]
 | .box s=>[s]
 | .bn s _=>[s]
 | .append s _ _=>[s]
 | .call ss=>ss
 | .BR s _ _ _=>[s]
 | .mkMap s _ _=>[s]
 | .ku s _=>[s]
 | .yld s _=>[s]
 |_=>[]
def Ha:vN→List Nat
 | .ku _ r=>[r]
 | .yld _ r=>[r]
 |_=>[]
def FH:vN→Bool
 | .load _ | .store _ | .qG _ | .slice .. | .append .. | .copy _ | .clear .. | .call _ | .xR _ | .bn .. | .box _ | .qH _ | .As .. | .At .. | .mZ .. | .BS | .BT _ | .BU | .ku .. | .qI .. | .yld .. =>true
 |_=>false
def FI:vN→List D→Bool
 | .slice _ _ _ false,.own _ _ _::_=>true
 |_,_=>false
def k7 (op:vN) (vals:List D):List Nat:=
 match FH op&& !FI op vals with
 |true=>vals.flatMap refsD++(fN op++Ha op)
 |false=>fN op
def isDead:Obj→Bool | .dead=>true |_=>false
def wrL (os:List Obj):Wr→List Obj
 |[]=>os
 |(i,o)::ws=>wrL (os.set i o) ws
structure DOper where
 dst:Option Nat
 op:vN
 args:List Opd
 after:List Nat
 guard:Option (Nat×Bool)
def putT (ts:List D):Option Nat→D→List D
 |some d,v=>ts.set d v
 |none,_=>ts
abbrev Lg:=List Nat×List Nat
def jX (os:List Obj) (rf:List Nat):Vw:=fun i=>match rf.contains i with |true=>os.getD i .dead |false=> .dead
def Opd.known (b:Bool) (st:St):Opd→St
 | .t n=>⟨st.ts.set n (.bool b),st.os⟩
 | .c _=>st
section run
variable {R:Type}
def BX (E:Env) (o:DOper) (st:St) (K:St→Lg→Option R):Option R:=
 let vals:=o.args.map (Opd.val st.ts)
 let rf:=k7 o.op vals
 match (fN o.op).all fun s=>Nat.blt s st.os.length&&isDead (st.os.getD s .gone)with
 |true=>cl (fun v ws=>match ws.all fun p=>rf.contains p.1&& !isDead p.2 with
   |true=>K ⟨putT st.ts o.dst v,wrL st.os ws⟩ (rf,ws.map (·.1))
   |false=>none) E o.op vals (jX st.os rf)
 |false=>none
def tj (o:DOper) (st:St) (K:St→Lg→Option R):Option R:=K ⟨putT st.ts o.dst (.tup []),st.os⟩ ([],[])
def ja (E:Env) (o:DOper) (st:St) (K:St→Lg→Option R):Option R:=
 match o.guard with
 |none=>BX E o st K
 |some (g,us)=>match st.ts.getD g .undef with
  | .bool b=>match us with
   |true=>match b with
    |true=>BX E o ⟨st.ts.set g (.bool true),st.os⟩ K
    |false=>tj o ⟨st.ts.set g (.bool false),st.os⟩ K
   |false=>match b with
    |true=>tj o ⟨st.ts.set g (.bool true),st.os⟩ K
    |false=>BX E o ⟨st.ts.set g (.bool false),st.os⟩ K
  | .tup []=>tj o st K
  |_=>none
def opsK (E:Env):List DOper→St→(St→List Lg→Option R)→Option R
 |[],st,K=>K st []
 |o::os,st,K=>ja E o st fun st' r=>opsK E os st' fun I9 lg=>K I9 (r::lg)
def jY (o:DOper):List Nat:=
 (o.args.filterMap fun | .t n=>some n | .c _=>none)++(match o.guard with |some (g,_)=>[g] |none=>[])
def indep (x:DOper) (rx:Lg) (y:DOper) (ry:Lg):Bool:=
 apart x.dst.toList (jY y)&&apart y.dst.toList (jY x)&&apart x.dst.toList y.dst.toList&&apart rx.2 ry.1&&apart ry.2 rx.1
def k8 (acc:List Nat):List Nat→Nat
 |[]=>0
 |e::l=>Nat.lor (Nat.lor (Nat.shiftLeft 1 e) (acc.getD e 0)) (k8 acc l)
def oP:List DOper→List Nat→List Nat
 |[],acc=>acc
 |o::os,acc=>oP os (acc++[k8 acc o.after])
def qN (ops:List DOper) (lg:List Lg):Bool:=
 let an:=oP ops []
 let l:=(ops.zip lg).zipIdx
 l.all fun p=>l.all fun q=> !(Nat.blt q.2 p.2) ||Nat.testBit (an.getD p.2 0) q.2 ||indep q.1.1 q.1.2 p.1.1 p.1.2
inductive Ex where |norm |exit (id:Nat) |ret
inductive CellM where |p (k:Sk) |o (site:Nat) (e:TypeId)
inductive SlotM where |p (k:Vk) |o (site:Nat) (e:TypeId)
inductive ObjM where |a (e:TypeId) |v (cs:List CellM) |m (k e:Vk)
structure Shape where
 keep:List Nat
 slots:List (Nat×SlotM)
 objs:List (Nat×ObjM)
inductive DCode where
 |skip
 |region (draw:Bool) (ops:List DOper)
 |seq (a b:DCode)
 |cond (c:Opd) (a b:DCode)
 |block (id:Nat) (c:DCode)
 |loop (sh:Shape) (c:DCode)
 |exit (id:Nat)
 |ret
 |bad
def takeOwn (os:Vw) (e:TypeId):D→Option (D×List Nat)
 | .own _ id _=>match os id with
  | .arr e' nb l=>if e=e' then some (.ov e nb l,[id])else none
  |_=>none
 | .zs e' nb=>if e=e' then some (.ov e nb [],[])else none
 |_=>none
def packCells (os:Vw):List CellM→List D→Option (List D×List Nat)
 |[],[]=>some ([],[])
 | .p k::ms,d::ds=>match fits k (cA os d).1,packCells os ms ds with
  |true,some (l,n)=>some ((cA os d).1::l,refs0 d++n)
  |_,_=>none
 | .o _ e::ms,d::ds=>match takeOwn os e d,packCells os ms ds with
  |some (x,i),some (l,n)=>some (x::l,i++n)
  |_,_=>none
 |_,_=>none
def fO (ts:List D) (os:Vw):List (Nat×SlotM)→Option (List D×List Nat)
 |[]=>some ([],[])
 |(j,.p k)::ms=>match k.fits (frz os (ts.getD j .undef)).1,fO ts os ms with
  |true,some (l,n)=>some ((frz os (ts.getD j .undef)).1::l,refsD (ts.getD j .undef)++n)
  |_,_=>none
 |(j,.o _ e)::ms=>match takeOwn os e (ts.getD j .undef),fO ts os ms with
  |some (x,i),some (l,n)=>some (x::l,i++n)
  |_,_=>none
def packObjs (os:Vw):List (Nat×ObjM)→Option (List D×List Nat)
 |[]=>some ([],[])
 |(i,.a e)::ms=>match os i,packObjs os ms with
  | .arr e' nb els,some (l,n)=>if e=e' then some (.ov e nb els::l,i::n)else none
  |_,_=>none
 |(i,.m k e)::ms=>match os i,packObjs os ms with
  | .mp k' e' ks vs,some (l,n)=>if k'=k∧e'=e then some (.mpv ks vs::l,i::n)else none
  |_,_=>none
 |(i,.v cm)::ms=>match os i with
  | .var cs=>match packCells os cm cs,packObjs os ms with
   |some (x,n1),some (l,n)=>some (.pv x::l,i::(n1++n))
   |_,_=>none
  |_=>none
def pack (sh:Shape) (st:St):Option (List D):=
 let os:Vw:=fun i=>st.os.getD i .dead
 match fO st.ts os sh.slots,packObjs os sh.objs with
 |some (l1,n1),some (l2,n2)=>match nodupB (n1++n2)with
  |true=>some (l1++l2)
  |false=>none
 |_,_=>none
def openCells (v:D):Nat→List CellM→List D×Wr
 |_,[]=>([],[])
 |j,.p k::ms=>let q:=openCells v (j+1) ms;(eta k (v.cs.getD j .undef)::q.1,q.2)
 |j,.o s e::ms=>let q:=openCells v (j+1) ms;(.own e s (v.cs.getD j .undef).els.length::q.1,(s,.arr e (v.cs.getD j .undef).nb (v.cs.getD j .undef).els)::q.2)
def openSlots (vs:List D):Nat→List (Nat×SlotM)→List (Nat×D)×Wr
 |_,[]=>([],[])
 |n,(j,.p k)::ms=>let q:=openSlots vs (n+1) ms;((j,etaV k (vs.getD n .undef) 0)::q.1,q.2)
 |n,(j,.o s e)::ms=>let q:=openSlots vs (n+1) ms;((j,.own e s (vs.getD n .undef).els.length)::q.1,(s,.arr e (vs.getD n .undef).nb (vs.getD n .undef).els)::q.2)
def openObjs (vs:List D):Nat→List (Nat×ObjM)→Wr
 |_,[]=>[]
 |n,(i,.a e)::ms=>(i,.arr e (vs.getD n .undef).nb (vs.getD n .undef).els)::openObjs vs (n+1) ms
 |n,(i,.m k e)::ms=>(i,.mp k e (vs.getD n .undef).mks (vs.getD n .undef).mvs)::openObjs vs (n+1) ms
 |n,(i,.v cm)::ms=>let q:=openCells (vs.getD n .undef) 0 cm;(i,.var q.1)::(q.2++openObjs vs (n+1) ms)
def keepT (ids keep:List Nat):List D→Nat→List D
 |[],_=>[]
 |d::ds,j=>(match keep.contains j&&(refsD d).all (fun i=>ids.contains i)with |true=>d |false=> .undef)::keepT ids keep ds (j+1)
def setTs (ts:List D):List (Nat×D)→List D
 |[]=>ts
 |(j,d)::l=>setTs (ts.set j d) l
def unpack (sh:Shape) (st:St) (vs:List D):St:=
 let q:=openSlots vs 0 sh.slots
 ⟨setTs (keepT (sh.objs.map (·.1)) sh.keep st.ts 0) q.1,wrL (List.replicate st.os.length .dead) (q.2++openObjs vs sh.slots.length sh.objs)⟩
def iter:Nat→(List D→(List D→Option R)→Option R)→List D→Option R
 |0,_,_=>none
 |k+1,F,vs=>F vs (iter k F)
def codeK (E:Env) (k:Nat):DCode→St→(Ex→St→Option R)→Option R
 | .skip,st,K=>K .norm st
 | .region draw ops,st,K=>opsK E ops st fun st' lg=>match draw with
  |false=>K .norm st'
  |true=>match qN ops lg with |true=>K .norm st' |false=>none
 | .seq a b,st,K=>codeK E k a st fun ex st'=>match ex with
  | .norm=>codeK E k b st' K
  |ex=>K ex st'
 | .cond c a b,st,K=>match c.val st.ts with
  | .bool t=>match t with |true=>codeK E k a (c.known true st) K |false=>codeK E k b (c.known false st) K
  |_=>none
 | .block id c,st,K=>codeK E k c st fun ex st'=>match ex with
  | .exit id'=>match Nat.beq id' id with |true=>K .norm st' |false=>K (.exit id') st'
  |ex=>K ex st'
 | .loop sh c,st,K=>match pack sh st with
  |some vs=>iter k (fun vs again=>codeK E k c (unpack sh st vs) fun ex st'=>match ex with
   | .norm=>match pack sh st' with |some vs'=>again vs' |none=>none
   |ex=>K ex st') vs
  |none=>none
 | .exit id,st,K=>K (.exit id) st
 | .ret,st,K=>K .ret st
 | .bad,_,_=>none
end run
inductive ResM where |t (n:Nat) |c (n:Nat)
structure DFun where
 nt:Nat
 nobj:Nat
 am:List Am
 rm:List Rm
 res:List ResM
 body:DCode
def enterArgs:Nat→List Am→List D→Option (List D×Wr)
 |_,[],[]=>some ([],[])
 |i,.p::as,d::ds=>match pureD d,enterArgs (i+1) as ds with
  |true,some (l,w)=>some (d::l,w)
  |_,_=>none
 |i,.g e::as,.ov e' nb els::ds=>match enterArgs (i+1) as ds with
  |some (l,w)=>if e=e' then some (.own e i els.length::l,(i,.arr e nb els)::w)else none
  |none=>none
 |i,.m e::as,.ov e' nb els::ds=>match enterArgs (i+1) as ds with
  |some (l,w)=>if e=e' then some (.own e i els.length::l,(i,.arr e nb els)::w)else none
  |none=>none
 |i,.v ks::as,.pv cs::ds=>match fitsL ks cs,enterArgs (i+1) as ds with
  |true,some (l,w)=>some (.ptr i 0::l,(i,.var cs)::w)
  |_,_=>none
 |_,_,_=>none
def enter (f:DFun) (args:List D):Option St:=
 match enterArgs 0 f.am args with
 |some (l,w)=>some ⟨l++List.replicate (f.nt - l.length) (.tup []),wrL (List.replicate f.nobj .dead) w⟩
 |none=>none
def resVal (st:St) (k:Rm):ResM→Option D
 | .t n=>some (st.ts.getD n .undef)
 | .c n=>match st.ts.getD n .undef,k with
  | .ptr id 0,k=>match st.os.getD id .dead with
   | .var cs=>match k with
    | .p ⟨true,_⟩=>some (.agg cs)
    |_=>match cs with |[d]=>some d |_=>none
   |_=>none
  |_,_=>none
def finRes (st:St):List Rm→List ResM→Option (List D×List Nat×List Nat)
 |[],[]=>some ([],[],[])
 |m::ms,r::rs=>match resVal st m r,finRes st ms rs with
  |some d,some (l,n,fz)=>match m with
   | .p k=>match k.fits (frz (fun i=>st.os.getD i .dead) d).1 with
    |true=>some ((frz (fun i=>st.os.getD i .dead) d).1::l,n,refsD d++fz)
    |false=>none
   | .o e=>match d with
    | .ownv _ id off len=>match off,st.os.getD id .dead with
     |0,.arr e' nb els=>if e=e' then some (.ov e nb (els.take len)::l,id::n,fz)else none
     |_,_=>none
    |d=>match takeOwn (fun i=>st.os.getD i .dead) e d with
     |some (x,i)=>some (x::l,i++n,fz)
     |none=>none
  |_,_=>none
 |_,_=>none
def finBack (st:St):Nat→List Am→Option (List D×List Nat)
 |_,[]=>some ([],[])
 |i,.m e::as=>match st.os.getD i .dead,finBack st (i+1) as with
  | .arr e' nb els,some (l,n)=>if e=e' then some (.ov e nb els::l,i::n)else none
  |_,_=>none
 |i,.v ks::as=>match st.os.getD i .dead,finBack st (i+1) as with
  | .var cs,some (l,n)=>match fitsL ks cs with |true=>some (.pv cs::l,i::n) |false=>none
  |_,_=>none
 |i,_::as=>finBack st (i+1) as
def finish (f:DFun) (st:St):Option (List D):=
 match finRes st f.rm f.res,finBack st 0 f.am with
 |some (l,n,fz),some (l',n')=>match nodupB (n++n')&&apart fz (n++n')with
  |true=>some (l++l')
  |false=>none
 |_,_=>none
def dbody (f:DFun) (E:Env) (k:Nat) (args:List D):Option (List D):=
 match enter f args with
 |some st=>codeK E k f.body st fun ex st'=>match ex with
  | .exit _=>none
  |_=>finish f st'
 |none=>none
def enterW (f:DFun) (g:FuncId) (e:TypeId):List D→Option St
 |[x,.ov e' nb els]=>match pureD x&&decide (e'=e)with
  |true=>some ⟨x:: .ptr 1 0:: .ptr 2 0::List.replicate (f.nt - 3) (.tup []),wrL (List.replicate f.nobj .dead) [(1,.var [.own e 3 els.length]),(2,.var [.fnr g [1,2]]),(3,.arr e nb els)]⟩
  |false=>none
 |_=>none
def finishW (g:FuncId) (e:TypeId) (n:Nat) (st:St):Option (List D):=
 match st.ts.getD n .undef,st.os.getD 1 .dead,st.os.getD 2 .dead with
 | .int .i64 r,.var [c],.var [.fnr g' [1,2]]=>match decide (g'=g),nA (fun i=>st.os.getD i .dead) e c with
  |true,some (nb,els,_)=>some [.int .i64 r,.ov e nb els]
  |_,_=>none
 |_,_,_=>none
def dbodyW (f:DFun) (g:FuncId) (e:TypeId) (n:Nat) (E:Env) (k:Nat) (args:List D):Option (List D):=
 match enterW f g e args with
 |some st=>codeK E k f.body st fun ex st'=>match ex with
  | .exit _=>none
  |_=>finishW g e n st'
 |none=>none
structure RBody where
 nt:Nat
 nobj:Nat
 p:Nat
 o:Nat
 assign:DCode
 body:DCode
def rowSt (e:TypeId) (nobj:Nat) (ts:List D) (nb:Bool) (els:List D):St:=
 ⟨ts,wrL (List.replicate nobj .dead) [(1,.var [.own e 3 els.length]),(3,.arr e nb els)]⟩
def finishR (e:TypeId) (st:St):Option (List D):=
 match st.os.getD 1 .dead with
 | .var [c]=>match nA (fun i=>st.os.getD i .dead) e c with
  |some (nb,els,_)=>some [.ov e nb els]
  |none=>none
 |_=>none
def droundK (b:RBody) (e:TypeId) (E:Env) (k:Nat) (st:St):Option (List D):=
 codeK E k b.assign st fun ex st1=>match ex with
  | .norm=>codeK E k b.body st1 fun ex st2=>match ex with
   | .norm=>finishR e st2
   |_=>none
  |_=>none
def dround (b:RBody) (e:TypeId) (E:Env) (k:Nat):List D→Option (List D)
 |[x,.ov e' nb els]=>match pureD x&&decide (e'=e)with
  |true=>droundK b e E k (rowSt e b.nobj (((List.replicate b.nt .undef).set b.o (.ptr 1 0)).set b.p x) nb els)
  |false=>none
 |_=>none
def diter (f:DFun) (e:TypeId) (E:Env) (k:Nat) (caps:List D) (nb:Bool) (els:List D):Option (List D):=
 match caps.all pureD with
 |true=>codeK E k f.body (rowSt e f.nobj (.yl 1::caps++List.replicate (f.nt - (caps.length+1)) (.tup [])) nb els) fun ex st'=>match ex with
  | .exit _=>none
  |_=>finishR e st'
 |false=>none
structure RfFun where
 nt:Nat
 nobj:Nat
 am:List Am
 rm:List Rm
 res:List ResM
 pre:List DCode
 mid:DCode
 fo:Nat
 gi:FuncId
 fi:DFun
 e:TypeId
 bd:RBody
 site:Nat
 post:DCode
def RfFun.d (f:RfFun):DFun:=⟨f.nt,f.nobj,f.am,f.rm,f.res,.skip⟩
def rfEnd (f:RfFun) (ex:Ex) (st:St):Option (List D):=match ex with
 | .exit _=>none
 |_=>finish f.d st
def rfGo (f:RfFun) (E:Env) (k:Nat) (st:St):Option (List D):=
 match st.ts.getD f.fo .undef,st.ts.getD f.bd.o .undef with
 | .fn g caps,.ptr oid 0=>match decide (g=f.gi),st.os.getD oid .dead,st.os.getD f.site .gone with
  |true,.var [c],.dead=>match nA (fun i=>st.os.getD i .dead) f.e c with
   |some (nb,els,ws)=>match diter f.fi f.e {E with yld:=some (f.e,dround f.bd f.e E k)} k caps nb els with
    |some [.ov _ nb' els']=>codeK E k f.post ⟨st.ts,wrL st.os (ws++[(f.site,.arr f.e nb' els'),(oid,.var [.own f.e f.site els'.length])])⟩ (rfEnd f)
    |_=>none
   |none=>none
  |_,_,_=>none
 |_,_=>none
def rfPre (f:RfFun) (E:Env) (k:Nat):List DCode→St→Option (List D)
 |[],st=>codeK E k f.mid st fun ex st1=>match ex with
  | .norm=>rfGo f E k st1
  |_=>none
 |d::ds,st=>codeK E k d st fun ex st1=>match ex with
  | .norm=>rfPre f E k ds st1
  |ex=>rfEnd f ex st1
def drf (f:RfFun) (E:Env) (k:Nat) (args:List D):Option (List D):=
 match enter f.d args with
 |some st=>rfPre f E k f.pre st
 |none=>none
inductive Entry where
 |code (f:DFun)
 |spec (s:BK) (f:List D→Option (List D))
 |wr (f:DFun) (e:TypeId) (n:Nat)
 |rf (f:RfFun)
def Entry.sig:Entry→BK
 | .code f=>⟨f.am,f.rm⟩
 | .spec s _=>s
 | .wr _ _ _=>⟨[],[]⟩
 | .rf f=>⟨f.am,f.rm⟩
def Entry.wty:Entry→Option TypeId
 | .wr _ e _=>some e
 |_=>none
def envOf (ty:TypeId→Option Vk) (tab:FuncId→Option Entry) (call:FuncId→List D→Option (List D)):Env:=
 ⟨ty,fun g=>(tab g).map Entry.sig,call,fun g=>(tab g).bind Entry.wty,none⟩
def dcall (ty:TypeId→Option Vk) (tab:FuncId→Option Entry):Nat→FuncId→List D→Option (List D)
 |0,_,_=>none
 |k+1,g,args=>match tab g with
  |some (.code f)=>dbody f (envOf ty tab (dcall ty tab k)) k args
  |some (.spec _ f)=>f args
  |some (.wr f e n)=>dbodyW f g e n (envOf ty tab (dcall ty tab k)) k args
  |some (.rf f)=>drf f (envOf ty tab (dcall ty tab k)) k args
  |none=>none
end
section
def growSpec (e:TypeId) (Lx:Nat):List D→Option (List D)
 |[.ov e' true [],.int .i64 n]=>if e'=e∧0≤n∧n*Lx≤140737488355328 then some [.ov e (decide (n=0)) []]else none
 |_=>none
end
section
def Same (ok:Nat→Prop) (w w':World):Prop:=∀ b,ok b→w'.heap[b]? =w.heap[b]?
theorem Same.cell {ok:Nat→Prop} {w w':World} (h:Same ok w w') {a:Addr} (ha:ok a.block):w'.cell? a=w.cell? a:=World.cell?_of_block (h _ ha)
def fe (es:Array MapEntry) (clock:Nat):Prop:=(∀ x,x∈es.toList→x.born<clock)∧(es.toList.map (·.born)).Nodup
theorem fe.empty (c:Nat):fe #[] c:=⟨fun x h=>by simp at h,by simp⟩
theorem fe.push {es:Array MapEntry} {c:Nat} (h:fe es c) (k v:Value):fe (es.push ⟨k,v,c⟩) (c+1):=by
 refine⟨fun x hx=> ?_, ?_⟩
 ·simp only[Array.toList_push,List.mem_append,List.mem_singleton]at hx
  rcases hx with hx |rfl
  ·have:=h.1 x hx;omega
  ·show c<c+1;omega
 ·simp only[Array.toList_push,List.map_append,List.map_cons,List.map_nil]
  refine List.nodup_append.2 ⟨h.2,by simp,fun a ha b hb=> ?_⟩
  obtain⟨x,hx,rfl⟩:=List.mem_map.1 ha
  simp only[List.mem_singleton]at hb
  have:=h.1 x hx
  omega
theorem fe.modify {es:Array MapEntry} {c:Nat} (h:fe es c) (j:Nat) (f:MapEntry→MapEntry) (hf:∀ x,(f x).born=x.born):fe (es.modify j f) c:=by
 have e:(es.modify j f).toList.map (·.born)=es.toList.map (·.born):=by
  apply List.ext_getElem
  ·simp
  ·intro i h1 h2
   simp only[List.getElem_map,Array.getElem_toList,Array.getElem_modify]
   split
   ·exact hf _
   ·rfl
 refine⟨fun x hx=> ?_,by rw[e];exact h.2⟩
 have:x.born∈es.toList.map (·.born):=by rw[←e];exact List.mem_map_of_mem hx
 obtain⟨y,hy,e2⟩:=List.mem_map.1 this
 have:=h.1 y hy
 omega
inductive RepV (ty:TypeId→Option Vk) (w:World) (ok:Nat→Prop):Value→D→Prop
 |int (k n):RepV ty w ok (.int k n) (.int k n)
 |bool (b):RepV ty w ok (.bool b) (.bool b)
 |str (s):RepV ty w ok (.string s) (.str s)
 |slnil (e):RepV ty w ok (.slice none 0 0) (.sl e true [])
 |sl (e:TypeId) (ad:Addr) (c:Nat) (els:List D) (k:Vk) (cs:Nat→Nat→Value) (hk:ty e=some k) (hsp:c≠0→ad.spot=none) (hc:els.length≤c) (hf:∀ d,d∈els→k.fits d=true) (hok:els≠[]→ok ad.block)
   (hcell:∀ i j,i<els.length→j<k.ks.length→w.cell? ⟨ad.block,ad.off+(i*k.ks.length+j),none⟩=some (cs i j))
   (hrep:∀ i j,i<els.length→j<k.ks.length→RepV ty w ok (cs i j) ((els.getD i .undef).cell j)):
   RepV ty w ok (.slice (some ad) els.length c) (.sl e false els)
 |zsnil (e):RepV ty w ok (.slice none 0 0) (.zs e true)
 |zs (e:TypeId) (ad:Addr) (k:Vk) (hk:ty e=some k) (hsp:(0:Nat)≠0→ad.spot=none):RepV ty w ok (.slice (some ad) 0 0) (.zs e false)
 |agg (cs:Array Value) (ds:List D) (hs:cs.size=ds.length) (hrep:∀ j,j<ds.length→RepV ty w ok (cs.getD j undef) (ds.getD j .undef)):
   RepV ty w ok (.agg cs) (.agg ds)
 |fn (f) (caps:Array Value) (dc:List D) (hs:caps.size=dc.length) (hrep:∀ j,j<dc.length→RepV ty w ok (caps.getD j undef) (dc.getD j .undef)):
   RepV ty w ok (.func (.func f) #[] caps) (.fn f dc)
 |nilfn:RepV ty w ok .nilFunc .nilfn
 |rp (b:Nat) (cs:List D) (off:Nat) (vals:Nat→Value) (hp:∀ d,d∈cs→pure0 d=true) (hok:ok b) (hcell:∀ j,j<cs.length→w.cell? ⟨b,j,none⟩=some (vals j))
   (hrep:∀ j,j<cs.length→RepV ty w ok (vals j) (cs.getD j .undef)):
   RepV ty w ok (.pointer (some ⟨b,off,none⟩)) (.rp cs off)
 |mpl (b:Nat) (es:Array MapEntry) (clock) (ks vs:List D) (hok:ok b) (hh:w.heap[b]? =some (.map es clock)) (hs:es.size=ks.length) (hv:vs.length=ks.length) (hbo:fe es clock)
   (hk:∀ i (h:i<es.size),RepV ty w ok es[i].key (ks.getD i .undef)) (hvv:∀ i (h:i<es.size),RepV ty w ok es[i].val (vs.getD i .undef)):
   RepV ty w ok (.map (some b)) (.mpl ks vs)
theorem RepV.mono {ty w ok v d} (h:RepV ty w ok v d) {w':World} {sK:Nat→Prop} (hok:∀ b,ok b→sK b) (hs:Same ok w w'):RepV ty w' sK v d:=by
 induction h with
 |int k n=>exact .int k n
 |bool b=>exact .bool b
 |str s=>exact .str s
 |slnil e=>exact .slnil e
 |sl e ad c els k cs hk hsp hc hf hb hcell hrep ih=>
  refine .sl e ad c els k cs hk hsp hc hf (fun h=>hok _ (hb h)) (fun i j hi hj=> ?_) ih
  have h1:ok ad.block:=hb (by intro h;subst h;simp at hi)
  rw[hs.cell (a:=⟨ad.block,_,none⟩) h1]
  exact hcell i j hi hj
 |zsnil e=>exact .zsnil e
 |zs e ad k hk hsp=>exact .zs e ad k hk hsp
 |agg cs ds hsz hrep ih=>exact .agg cs ds hsz ih
 |fn f caps dc hsz hrep ih=>exact .fn f caps dc hsz ih
 |nilfn=>exact .nilfn
 |rp b cs off vals hp hb hcell hrep ih=>
  refine .rp b cs off vals hp (hok _ hb) (fun j hj=> ?_) ih
  rw[hs.cell (a:=⟨b,j,none⟩) hb]
  exact hcell j hj
 |mpl b es clock ks vs hb hh hsz hv hbo hk hvv ih1 ih2=>exact .mpl b es clock ks vs (hok _ hb) (by rw[hs b hb];exact hh) hsz hv hbo ih1 ih2
abbrev Gh:=Nat→Value×Option Nat
inductive KG where
 |no
 |row (e:TypeId) (n:Nat)
 |var (n:Nat)
 |mp
def oSh:Obj→KG
 | .arr e _ els=> .row e els.length
 | .fro e _ els=> .row e els.length
 | .var cs=> .var cs.length
 | .frv cs=> .var cs.length
 | .mp _ _ _ _=> .mp
 |_=> .no
def live:Obj→Bool
 | .arr .. =>true
 | .var _=>true
 | .mp _ _ _ _=>true
 |_=>false
structure Cx where
 ty:TypeId→Option Vk
 X:Nat→Prop
 w0:World
 M0:Nat→Prop
 yl:Nat×Value
def LB (os:List Obj) (G:Gh) (b:Nat):Prop:=∃ id o,os[id]? =some o∧live o=true∧(G id).2=some b
def okB (C:Cx) (os:List Obj) (G:Gh) (w:World) (b:Nat):Prop:=b<w.heap.size∧ ¬LB os G b∧ ¬C.X b
section rel
variable (C:Cx) (os:List Obj) (G:Gh) (w:World)
def oAt (id:Nat):KG:=oSh (os.getD id .dead)
def ElaAt (v:Value) (i off:Nat):D→Prop
 | .sl e nb els=>i<els.length∧∃ ad c k,C.ty e=some k∧RepV C.ty w (okB C os G w) (.slice (some ad) els.length c) (.sl e nb els)∧v= .pointer (some ⟨ad.block,ad.off+(i*k.ks.length+off),none⟩)
 | .own e' id n=>match oAt os id with
  | .row e m=>e'=e∧n=m∧i<m∧∃ ad cap k,C.ty e=some k∧(G id).1= .slice (some ad) m cap∧v= .pointer (some ⟨ad.block,ad.off+(i*k.ks.length+off),none⟩)
  |_=>True
 | .ownv e' id o len=>match oAt os id with
  | .row e m=>e'=e∧o+len≤m∧i<len∧∃ ad cap k,C.ty e=some k∧(G id).1= .slice (some ad) m cap∧v= .pointer (some ⟨ad.block,ad.off+((o+i)*k.ks.length+off),none⟩)
  |_=>True
 |_=>False
def qO (v:Value) (n:Nat):Prop:=∃ a c,v= .slice a n c∧n≤c∧(a=none→n=0)∧∀ x,a=some x→c≠0→x.spot=none
def DP (v:Value):Prop:=∃ a:Addr,v= .pointer (some a)∧a.spot=none
def RepT0 (v:Value):D→Prop
 | .undef=>True
 | .own e' id n=>qO v n∧match oAt os id with
  | .row e m=>e'=e∧n=m∧v=(G id).1
  |_=>True
 | .ownv e' id off len=>qO v len∧match oAt os id with
  | .row e m=>e'=e∧off+len≤m∧∃ a c k,C.ty e=some k∧(G id).1= .slice a m c∧∃ a':Option Addr,v= .slice a' len (c - off)∧a'.isNone=a.isNone∧(∀ x,a'=some x→c - off≠0→x.spot=none)∧(off<c→a'=a.map (fun x=>⟨x.block,x.off+off*k.ks.length,none⟩))
  |_=>True
 | .ptr id off=>DP v∧match oAt os id with
  | .var _=>∃ g,(G id).1= .pointer (some ⟨g,0,none⟩)∧v= .pointer (some ⟨g,off,none⟩)
  |_=>True
 | .elp id lo n i=>i<n∧(DP v∧match oAt os id with
  | .var _=>∃ g,(G id).1= .pointer (some ⟨g,0,none⟩)∧v= .pointer (some ⟨g,lo+i,none⟩)
  |_=>True)
 | .ela b i off=>DP v∧ElaAt C os G w v i off b
 | .elaP b i lo n j=>j<n∧(DP v∧ElaAt C os G w v i (lo+j) b)
 | .mo id=>(∃ b,v= .map b)∧match oAt os id with
  | .mp=>v=(G id).1
  |_=>True
 | .fnr f ids=>∃ caps:Array Value,v= .func (.func f) #[] caps∧caps.size=ids.length∧∀ j,j<ids.length→match oAt os (ids.getD j 0)with
  | .var _=>caps.getD j undef=(G (ids.getD j 0)).1
  |_=>True
 | .yl id=>v= .func (.yield C.yl.1) #[] #[]∧match oAt os id with
  | .var _=>(G id).1=C.yl.2
  |_=>True
 | .agg _=>False
 | .tup _=>False
 | .ov _ _ _=>False
 | .pv _=>False
 | .mpv _ _=>False
 |d=>RepV C.ty w (okB C os G w) v d
def RepT1 (v:Value):D→Prop
 | .agg ds=>∃ cs:Array Value,v= .agg cs∧cs.size=ds.length∧∀ j,j<ds.length→RepT0 C os G w (cs.getD j undef) (ds.getD j .undef)
 |d=>RepT0 C os G w v d
def RepT (v:Value):D→Prop
 | .tup ds=>∃ vs:Array Value,v= .tuple vs∧vs.size=ds.length∧∀ j,j<ds.length→RepT1 C os G w (vs.getD j undef) (ds.getD j .undef)
 |d=>RepT1 C os G w v d
def FJ (sz:Nat) (blk:Option Nat) (v:Value) (n:Nat) (nb:Bool) (xs:List Value):Prop:=
 xs.length=n*sz∧
 ((blk=none∧n=0∧∃ a:Option Addr,v= .slice a 0 0∧nb=a.isNone∧∀ x,a=some x→(0:Nat)≠0→x.spot=none)∨
  (nb=false∧∃ g cap cur t,blk=some g∧v= .slice (some ⟨g,0,none⟩) n cap∧w.heap[g]? =some (.cells cur t (0,0))∧n≤cap∧cap≤maxLen∧cur.size=cap*sz∧xs=cur.toList.take (n*sz)))
def ObjRel (id:Nat):Obj→Prop
 | .dead=>True
 | .gone=>True
 | .arr e nb els=>∃ k xs,C.ty e=some k∧FJ w k.ks.length (G id).2 (G id).1 els.length nb xs∧(∀ d,d∈els→k.fits d=true)∧
   ∀ i j,i<els.length→j<k.ks.length→RepV C.ty w (okB C os G w) (xs.getD (i*k.ks.length+j) undef) ((els.getD i .undef).cell j)
 | .fro e nb els=>RepV C.ty w (okB C os G w) (G id).1 (.sl e nb els)
 | .var cs=>∃ g cells t,G id=(.pointer (some ⟨g,0,none⟩),some g)∧w.heap[g]? =some (.cells cells t (0,0))∧cells.size=cs.length∧
   ∀ j,j<cs.length→RepT0 C os G w (cells.getD j undef) (cs.getD j .undef)∧cell0 (cs.getD j .undef)=true
 | .frv cs=>RepV C.ty w (okB C os G w) (G id).1 (.rp cs 0)
 | .mp k e ks vs=>∃ g es clock,G id=(.map (some g),some g)∧w.heap[g]? =some (.map es clock)∧es.size=ks.length∧vs.length=ks.length∧(∀ d,d∈ks→k.fits d=true)∧(∀ d,d∈vs→e.fits d=true)∧
   (∀ i (h:i<es.size),RepV C.ty w (okB C os G w) es[i].key (ks.getD i .undef)∧RepV C.ty w (okB C os G w) es[i].val (vs.getD i .undef))∧fe es clock
def refsO:Obj→List Nat
 | .var cs=>refsL cs
 |_=>[]
structure Rel (tm:Array Value) (st:St) (G:Gh) (w:World):Prop where
 tsz:tm.size=st.ts.length
 ts:∀ (j:Nat) (d:D),st.ts[j]? =some d→RepT C st.os G w (tm.getD j undef) d
 os:∀ (id:Nat) (o:Obj),st.os[id]? =some o→ObjRel C st.os G w id o
 inj:∀ (i j:Nat) (oi oj:Obj) (b:Nat),st.os[i]? =some oi→st.os[j]? =some oj→live oi=true→live oj=true→(G i).2=some b→(G j).2=some b→i=j
 inX:∀ b,LB st.os G b→ ¬C.X b∧b<w.heap.size∧(b<C.w0.heap.size→C.M0 b)
 rT:∀ (j:Nat) (d:D),st.ts[j]? =some d→∀ id,id∈refsD d→isDead (st.os.getD id .gone)=false
 rO:∀ (j:Nat) (o:Obj),st.os[j]? =some o→∀ id,id∈refsO o→isDead (st.os.getD id .gone)=false
 tape:w.tape=C.w0.tape
 osw:w.os=C.w0.os
 out:w.output=C.w0.output
 size:C.w0.heap.size≤w.heap.size
 frame:∀ b,b<C.w0.heap.size→ ¬C.M0 b→w.heap[b]? =C.w0.heap[b]?
 xw:∀ b,C.X b→b<C.w0.heap.size∧ ¬C.M0 b
end rel
section mono
variable {C:Cx} {os os':List Obj} {G G':Gh} {w w':World}
theorem ElaAt.mono {v:Value} {i off:Nat} {b:D} (h:ElaAt C os G w v i off b) (hok:∀ b,okB C os G w b→okB C os' G' w' b) (hs:Same (okB C os G w) w w')
  (hid:∀ id,id∈refsb b→(oAt os' id=oAt os id∧G' id=G id)∨oAt os' id= .no):ElaAt C os' G' w' v i off b:=by
 cases b with
 |sl e nb els=>
  obtain⟨h1,ad,c,k,h2,h3,h4⟩:=h
  exact⟨h1,ad,c,k,h2,h3.mono hok hs,h4⟩
 |own e' id n=>
  rcases hid id (by simp[refsb])with⟨h1,h2⟩ |h1
  ·simp only[ElaAt,h1,h2]at h⊢;exact h
  ·simp only[ElaAt,h1]
 |ownv e' id o len=>
  rcases hid id (by simp[refsb])with⟨h1,h2⟩ |h1
  ·simp only[ElaAt,h1,h2]at h⊢;exact h
  ·simp only[ElaAt,h1]
 |_=>exact h.elim
theorem RepT0.mono {v:Value} {d:D} (h:RepT0 C os G w v d) (hok:∀ b,okB C os G w b→okB C os' G' w' b) (hs:Same (okB C os G w) w w')
  (hid:∀ id,id∈refs0 d→(oAt os' id=oAt os id∧G' id=G id)∨oAt os' id= .no):RepT0 C os' G' w' v d:=by
 cases d with
 |undef=>trivial
 |own e' id n=>
  rcases hid id (by simp[refsb,refs0])with⟨h1,h2⟩ |h1
  ·simp only[RepT0,h1,h2]at h⊢;exact h
  ·refine⟨h.1, ?_⟩;simp only[h1]
 |ownv e' id o len=>
  rcases hid id (by simp[refsb,refs0])with⟨h1,h2⟩ |h1
  ·simp only[RepT0,h1,h2]at h⊢;exact h
  ·refine⟨h.1, ?_⟩;simp only[h1]
 |ptr id off=>
  rcases hid id (by simp[refs0])with⟨h1,h2⟩ |h1
  ·simp only[RepT0,h1,h2]at h⊢;exact h
  ·refine⟨h.1, ?_⟩;simp only[h1]
 |elp id lo n i=>
  rcases hid id (by simp[refs0])with⟨h1,h2⟩ |h1
  ·simp only[RepT0,h1,h2]at h⊢;exact h
  ·refine⟨h.1,h.2.1, ?_⟩;simp only[h1]
 |mo id=>
  rcases hid id (by simp[refsb,refs0])with⟨h1,h2⟩ |h1
  ·simp only[RepT0,h1,h2]at h⊢;exact h
  ·refine⟨h.1, ?_⟩;simp only[h1]
 |fnr f ids=>
  obtain⟨caps,h1,h2,h3⟩:=h
  refine⟨caps,h1,h2,fun j hj=> ?_⟩
  have hm:ids.getD j 0∈refs0 (.fnr f ids):=by
   simp only[refs0,zq1,zq4 hj,Option.getD_some]
   exact List.getElem_mem hj
  rcases hid _ hm with⟨h4,h5⟩ |h4
  ·rw[h4,h5];exact h3 j hj
  ·rw[h4];trivial
 |yl id=>
  rcases hid id (by simp[refs0])with⟨h1,h2⟩ |h1
  ·simp only[RepT0,h1,h2]at h⊢;exact h
  ·refine⟨h.1, ?_⟩;simp only[h1]
 |ela b i off=>exact⟨h.1,ElaAt.mono h.2 hok hs (fun id hi=>hid id hi)⟩
 |elaP b i lo n j=>exact⟨h.1,h.2.1,ElaAt.mono h.2.2 hok hs (fun id hi=>hid id hi)⟩
 |agg _=>exact h.elim
 |tup _=>exact h.elim
 |ov _ _ _=>exact h.elim
 |pv _=>exact h.elim
 |mpv _ _=>exact h.elim
 |_=>simp only[RepT0]at h⊢;exact RepV.mono h hok hs
theorem mem_getD {ds:List D} {j:Nat} (hlt:j<ds.length):ds.getD j .undef∈ds:=by
 rw[zq1,zq4 hlt];simp
theorem RepT1.mono {v:Value} {d:D} (h:RepT1 C os G w v d) (hok:∀ b,okB C os G w b→okB C os' G' w' b) (hs:Same (okB C os G w) w w')
  (hid:∀ id,id∈refs1 d→(oAt os' id=oAt os id∧G' id=G id)∨oAt os' id= .no):RepT1 C os' G' w' v d:=by
 cases d with
 |agg ds=>
  obtain⟨cs,h1,h2,h3⟩:=h
  exact⟨cs,h1,h2,fun j hj=>(h3 j hj).mono hok hs fun id hi=>hid id (List.mem_flatMap.2 ⟨_,mem_getD hj,hi⟩)⟩
 |_=>simp only[RepT1]at h⊢;exact RepT0.mono h hok hs hid
theorem RepT.mono {v:Value} {d:D} (h:RepT C os G w v d) (hok:∀ b,okB C os G w b→okB C os' G' w' b) (hs:Same (okB C os G w) w w')
  (hid:∀ id,id∈refsD d→(oAt os' id=oAt os id∧G' id=G id)∨oAt os' id= .no):RepT C os' G' w' v d:=by
 cases d with
 |tup ds=>
  obtain⟨cs,h1,h2,h3⟩:=h
  exact⟨cs,h1,h2,fun j hj=>(h3 j hj).mono hok hs fun id hi=>hid id (List.mem_flatMap.2 ⟨_,mem_getD hj,hi⟩)⟩
 |_=>simp only[RepT]at h⊢;exact RepT1.mono h hok hs hid
end mono
end
section
section
variable {C:Cx} {tm:Array Value} {st:St} {G:Gh} {w:World}
theorem okB.lt {os:List Obj} {b:Nat} (h:okB C os G w b):b<w.heap.size:=h.1
theorem dE {os:List Obj} {id j:Nat} {o:Obj} (hid:id<os.length):oAt (os.set id o) j=if j=id then oSh o else oAt os j:=by
 unfold oAt
 by_cases h:j=id
 ·subst h;simp[hid]
 ·have h':id≠j:=fun e=>h e.symm
  simp[zq1,List.getElem?_set,h,h']
theorem cJ {os:List Obj} {id j:Nat} {o:Obj} (ho:isDead o=false) (h:isDead (os.getD j .gone)=false):isDead ((os.set id o).getD j .gone)=false:=by
 rw[zq1,List.getElem?_set]
 rw[zq1]at h
 split
 ·split
  ·simpa using ho
  ·simp[isDead]
 ·exact h
theorem Rel.put (h:Rel C tm st G w) {t:Nat} {v:Value} {d:D} (hv:RepT C st.os G w v d)
  (hr:∀ id,id∈refsD d→isDead (st.os.getD id .gone)=false):Rel C (tm.setIfInBounds t v) ⟨st.ts.set t d,st.os⟩ G w where
 tsz:=by simpa using h.tsz
 ts:=by
  intro j e hj
  rw[List.getElem?_set]at hj
  have hsz:=h.tsz
  split at hj
  ·rename_i I_
   subst I_
   split at hj
   ·rename_i hlt
    cases hj
    have:t<tm.size:=by omega
    simpa[zq2,this]using hv
   ·cases hj
  ·rename_i hne
   have:=h.ts j e hj
   simpa[zq2,Array.getElem?_setIfInBounds_ne hne]using this
 os:=h.os
 inj:=h.inj
 inX:=h.inX
 rT:=by
  intro j e hj
  rw[List.getElem?_set]at hj
  split at hj
  ·split at hj
   ·cases hj;exact hr
   ·cases hj
  ·exact h.rT j e hj
 rO:=h.rO
 tape:=h.tape
 osw:=h.osw
 out:=h.out
 size:=h.size
 frame:=h.frame
 xw:=h.xw
theorem Rel.putT (h:Rel C tm st G w) {t:Option Nat} {v:Value} {d:D} (hv:RepT C st.os G w v d)
  (hr:∀ id,id∈refsD d→isDead (st.os.getD id .gone)=false) {df:List Deferred}:
  Rel C ((Act.put ⟨tm,df⟩ t v).tmps) ⟨GD.putT st.ts t d,st.os⟩ G w:=by
 cases t with
 |none=>exact h
 |some t=>exact h.put hv hr
theorem ObjRel.mono {os os':List Obj} {G G':Gh} {w w':World} {id:Nat} {o:Obj} (h:ObjRel C os G w id o)
  (hok:∀ b,okB C os G w b→okB C os' G' w' b) (hs:Same (okB C os G w) w w')
  (hid:∀ i,i∈refsO o→(oAt os' i=oAt os i∧G' i=G i)∨oAt os' i= .no) (hG:G' id=G id)
  (hb:live o=true→∀ b,(G id).2=some b→w'.heap[b]? =w.heap[b]?):ObjRel C os' G' w' id o:=by
 cases o with
 |dead=>trivial
 |gone=>trivial
 |arr e nb els=>
  obtain⟨k,xs,h1,⟨h2,h3⟩,h4,h5⟩:=h
  refine⟨k,xs,h1,⟨h2, ?_⟩,h4,fun i j hi hj=>(h5 i j hi hj).mono hok hs⟩
  rw[hG]
  rcases h3 with h3 |⟨hn,g,cap,cur,t,e1,e2,e3,r⟩
  ·exact .inl h3
  ·refine .inr ⟨hn,g,cap,cur,t,e1,e2, ?_,r⟩
   rw[hb rfl g e1];exact e3
 |fro e nb els=>simp only[ObjRel]at h⊢;rw[hG];exact h.mono hok hs
 |var cs=>
  obtain⟨g,cells,t,h1,h2,h3,h4⟩:=h
  refine⟨g,cells,t,by rw[hG];exact h1, ?_,h3,fun j hj=>⟨(h4 j hj).1.mono hok hs fun i hi=>hid i (List.mem_flatMap.2 ⟨_,mem_getD hj,hi⟩),(h4 j hj).2⟩⟩
  rw[hb rfl g (by rw[h1])];exact h2
 |frv cs=>simp only[ObjRel]at h⊢;rw[hG];exact h.mono hok hs
 |mp k e ks vs=>
  obtain⟨g,es,clock,h1,h2,h3,h4,h5,h6,h7,h8⟩:=h
  exact⟨g,es,clock,by rw[hG];exact h1,by rw[hb rfl g (by rw[h1])];exact h2,h3,h4,h5,h6,fun i hi=>⟨(h7 i hi).1.mono hok hs,(h7 i hi).2.mono hok hs⟩,h8⟩
theorem Rel.GK (h:Rel C tm st G w) {id:Nat} {o o':Obj} {gh:Value×Option Nat} {w':World} (hid:st.os[id]? =some o)
  (nB:o= .dead∨(gh=G id∧(oSh o'=oSh o∨oSh o'= .no))) (hd:isDead o'=false)
  (xJ:live o'=true→∀ b,gh.2=some b→(w.heap.size≤b∧b<w'.heap.size)∨(live o=true∧(G id).2=some b))
  (hsame:∀ b,b<w.heap.size→ ¬(live o=true∧(G id).2=some b)→w'.heap[b]? =w.heap[b]?)
  (hsz:w.heap.size≤w'.heap.size) (ht:w'.tape=w.tape) (hos:w'.os=w.os) (hout:w'.output=w.output)
  (ho:ObjRel C (st.os.set id o') (fun j=>if j=id then gh else G j) w' id o')
  (hro:∀ i,i∈refsO o'→isDead ((st.os.set id o').getD i .gone)=false):
  Rel C tm ⟨st.ts,st.os.set id o'⟩ (fun j=>if j=id then gh else G j) w':=by
 have hlt:id<st.os.length:=by
  rcases Nat.lt_or_ge id st.os.length with h' |h'
  ·exact h'
  ·simp[List.getElem?_eq_none h']at hid
 have xT:live o=true→∀ b,(G id).2=some b→LB st.os G b:=fun hl b hb=>⟨id,o,hid,hl,hb⟩
 have hLB:∀ b,LB (st.os.set id o') (fun j=>if j=id then gh else G j) b→LB st.os G b∨(w.heap.size≤b∧b<w'.heap.size):=by
  rintro b ⟨j,oj,hj,hl,hb⟩
  rw[List.getElem?_set]at hj
  by_cases e:id=j
  ·subst e
   simp only[hlt,if_true]at hj hb
   cases hj
   rcases xJ hl b hb with h' |⟨h1,h2⟩
   ·exact .inr h'
   ·exact .inl (xT h1 b h2)
  ·have e': ¬j=id:=fun x=>e x.symm
   simp only[e,if_false]at hj
   simp only[e',if_false]at hb
   exact .inl ⟨j,oj,hj,hl,hb⟩
 have hok:∀ b,okB C st.os G w b→okB C (st.os.set id o') (fun j=>if j=id then gh else G j) w' b:=by
  rintro b ⟨h1,h2,h3⟩
  refine⟨by omega,fun hl=> ?_,h3⟩
  rcases hLB b hl with h' |h'
  ·exact h2 h'
  ·omega
 have hS:Same (okB C st.os G w) w w':=fun b hb=>hsame b hb.1 fun ⟨h1,h2⟩=>hb.2.1 (xT h1 b h2)
 have pE:o= .dead→∀ i,isDead (st.os.getD i .gone)=false→i≠id:=by
  rintro rfl i hi rfl
  simp[zq1,hid,isDead]at hi
 have jG:∀ i,isDead (st.os.getD i .gone)=false→(oAt (st.os.set id o') i=oAt st.os i∧(if i=id then gh else G i)=G i)∨oAt (st.os.set id o') i= .no:=by
  intro i hi
  by_cases e:i=id
  ·subst e
   rcases nB with h' |⟨h1,h2⟩
   ·exact absurd rfl (pE h' i hi)
   ·rw[dE hlt]
    simp only[if_true]
    rcases h2 with h2 |h2
    ·left
     refine⟨?_,h1⟩
     rw[h2];simp[oAt,zq1,hid]
    ·exact .inr h2
  ·left
   rw[dE hlt]
   simp[e]
 exact {
  tsz:=h.tsz
  ts:=fun j d hj=>(h.ts j d hj).mono hok hS fun i hi=>jG i (h.rT j d hj i hi)
  os:=by
   intro j oj hj
   rw[List.getElem?_set]at hj
   by_cases e:id=j
   ·subst e
    simp only[hlt,if_true]at hj
    cases hj
    exact ho
   ·simp only[e,if_false]at hj
    have e': ¬j=id:=fun x=>e x.symm
    refine (h.os j oj hj).mono hok hS (fun i hi=>jG i (h.rO j oj hj i hi)) (by simp[e']) ?_
    intro hl b hb
    have FK:=h.inX b ⟨j,oj,hj,hl,hb⟩
    refine hsame b FK.2.1 fun ⟨h1,h2⟩=>e (h.inj id j o oj b hid hj h1 hl h2 hb)
  inj:=by
   intro i j oi oj b hi hj hli hlj hbi hbj
   rw[List.getElem?_set]at hi hj
   by_cases ei:id=i<;>by_cases ej:id=j
   ·omega
   ·subst ei
    have Ja: ¬j=id:=fun x=>ej x.symm
    simp only[hlt,if_true]at hi hbi
    simp only[ej,if_false,Ja]at hj hbj
    cases hi
    have FK:=h.inX b ⟨j,oj,hj,hlj,hbj⟩
    rcases xJ hli b hbi with h' |⟨h1,h2⟩
    ·omega
    ·exact h.inj id j o oj b hid hj h1 hlj h2 hbj
   ·subst ej
    have Jb: ¬i=id:=fun x=>ei x.symm
    simp only[hlt,if_true]at hj hbj
    simp only[ei,if_false,Jb]at hi hbi
    cases hj
    have FK:=h.inX b ⟨i,oi,hi,hli,hbi⟩
    rcases xJ hlj b hbj with h' |⟨h1,h2⟩
    ·omega
    ·exact h.inj i id oi o b hi hid hli h1 hbi h2
   ·have Jb: ¬i=id:=fun x=>ei x.symm
    have Ja: ¬j=id:=fun x=>ej x.symm
    simp only[ei,if_false,Jb]at hi hbi
    simp only[ej,if_false,Ja]at hj hbj
    exact h.inj i j oi oj b hi hj hli hlj hbi hbj
  inX:=by
   intro b hl
   rcases hLB b hl with h' |h'
   ·have:=h.inX b h'
    exact⟨this.1,by omega,this.2.2⟩
   ·refine⟨fun hx=> ?_,h'.2,fun hb=> ?_⟩
    ·have:=h.xw b hx
     have:=h.size
     omega
    ·have:=h.size
     omega
  rT:=fun j d hj i hi=>cJ hd (h.rT j d hj i hi)
  rO:=by
   intro j oj hj i hi
   rw[List.getElem?_set]at hj
   by_cases e:id=j
   ·subst e
    simp only[hlt,if_true]at hj
    cases hj
    exact hro i hi
   ·simp only[e,if_false]at hj
    exact cJ hd (h.rO j oj hj i hi)
  tape:=ht.trans h.tape
  osw:=hos.trans h.osw
  out:=hout.trans h.out
  size:=by have:=h.size;omega
  frame:=by
   intro b hb hM
   have Hb:=h.size
   rw[hsame b (by omega) fun ⟨h1,h2⟩=>hM ((h.inX b (xT h1 b h2)).2.2 hb)]
   exact h.frame b hb hM
  xw:=h.xw}
theorem Rel.world (h:Rel C tm st G w) {w':World} (hsame:∀ b,b<w.heap.size→w'.heap[b]? =w.heap[b]?) (hsz:w.heap.size≤w'.heap.size)
  (ht:w'.tape=w.tape) (hos:w'.os=w.os) (hout:w'.output=w.output):Rel C tm st G w':=by
 have hok:∀ b,okB C st.os G w b→okB C st.os G w' b:=fun b ⟨h1,h2,h3⟩=>⟨by omega,h2,h3⟩
 have hS:Same (okB C st.os G w) w w':=fun b hb=>hsame b hb.1
 exact {
  tsz:=h.tsz
  ts:=fun j d hj=>(h.ts j d hj).mono hok hS fun i _=> .inl ⟨rfl,rfl⟩
  os:=fun j o hj=>(h.os j o hj).mono hok hS (fun i _=> .inl ⟨rfl,rfl⟩) rfl fun hl b hb=>hsame b (h.inX b ⟨j,o,hj,hl,hb⟩).2.1
  inj:=h.inj
  inX:=fun b hl=>by have:=h.inX b hl;exact⟨this.1,by omega,this.2.2⟩
  rT:=h.rT
  rO:=h.rO
  tape:=ht.trans h.tape
  osw:=hos.trans h.osw
  out:=hout.trans h.out
  size:=by have:=h.size;omega
  frame:=by
   intro b hb hM
   have:=h.size
   rw[hsame b (by omega)]
   exact h.frame b hb hM
  xw:=h.xw}
end
end
section
def iy:Value→D→Bool
 | .int k n,.int k' n'=>k=k'&&n==n'
 | .bool a,.bool b=>a==b
 | .string s,.str t=>s.data==t.data
 | .slice none 0 0,.zs _ b=>b
 | .nilFunc,.nilfn=>true
 |_,_=>false
def jr:List Value→List D→Bool
 |[],[]=>true
 |v::vs,d::ds=>iy v d&&jr vs ds
 |_,_=>false
def ut:Value→D→Bool
 | .agg cs,.agg ds=>jr cs.toList ds
 |v,d=>iy v d
def bM:Operand→Opd→Bool
 | .tmp t,.t n=>t==n
 | .const v,.c d=>ut v d
 | .func f,.c (.fn g [])=>f==g
 |_,_=>false
def eB:List Operand→List Opd→Bool
 |[],[]=>true
 |x::xs,y::ys=>bM x y&&eB xs ys
 |_,_=>false
def isAggT (P:Program) (t:TypeId):Option Bool:=
 match P.underlying t with
 |some (.struct _)=>some true
 |some (.array _ _)=>some true
 |some _=>some false
 |none=>none
def szOk (P:Program) (t:TypeId) (k:Vk):Bool:=
 (P.info? t).map (·.size)==some k.ks.length&&isAggT P t==some k.agg&&(k.agg ||k.ks.length==1)
def oQ (P:Program) (t:TypeId) (zero:List D):Bool:=
 match (P.info? t).bind (·.zero)with
 |some z=>jr z.cells.toList zero&&zero.all cell0
 |none=>false
def nC (P:Program) (t:TypeId) (i:Nat):Option (Nat×Nat):=
 match P.underlying t with
 |some (.struct fs)=>match fs[i]? with
  |some f=>(P.info? f.type).map fun k9=>(f.offset,k9.size)
  |none=>none
 |some (.array _ e)=>(P.info? e).map fun k9=>(i*k9.size,k9.size)
 |_=>none
def fg (P:Program) (t:TypeId):List (Nat×Operand)→List (Nat×Nat)→List Opd→Bool
 |[],[],[]=>true
 |(i,x)::xs,p::ps,a::as=>nC P t i==some p&&bM x a&&fg P t xs ps as
 |_,_,_=>false
def qu (P:Program) (t:TypeId):Bool:=
 match P.underlying t with
 |some (.struct fs)=>fs.toList.all fun f=>(P.info? f.type).isSome
 |some (.array _ e)=>(P.info? e).isSome
 |_=>false
def iz:Nat→List (Nat×Operand)→List Opd→Bool
 |_,[],[]=>true
 |n,(i,x)::xs,a::as=>i==n&&bM x a&&iz (n+1) xs as
 |_,_,_=>false
def xU:Operand→Bool
 | .const (.slice none 0 0)=>true
 |_=>false
def DQ (P:Program) (t:TypeId):Bool:=
 match P.underlying t with
 |some (.slice _)=>true
 |_=>false
def nD:Bool→BinOp→Bool
 |true,.neq=>true
 |false,.eql=>true
 |_,_=>false
def xV (P:Program) (t e:TypeId):Bool:=match P.underlying t with |some (.slice e')=>e'==e |_=>false
def vU (P:Program) (t:TypeId):Bool:=match P.underlying t with |some .string=>true |_=>false
def FL (P:Program) (t:TypeId) (k:IntKind):Bool:=match P.underlying t with |some (.int k')=>k'=k |_=>false
def eh (P:Program):Nat→TypeId→Option (List Sk)
 |0,_=>none
 |n+1,t=>match P.underlying t with
  |some .bool=>some [.bool]
  |some (.int k)=>some [.int k]
  |some .string=>some [.str]
  |some (.struct fs)=>match P.stoodInHeld t with
   |false=>fs.toList.foldl (fun acc f=>match acc,eh P n f.type,P.info? f.type with
    |some a,some s,some i=>match f.name != "_" &&f.offset==a.length&&i.size==s.length with
        |true=>some (a++s)
        |false=>none
    |_,_,_=>none) (some [])
   |true=>none
  |some (.array len e)=>match eh P n e,P.info? e with
   |some s,some i=>match i.size==s.length with
    |true=>some (List.replicate len s).flatten
    |false=>none
   |_,_=>none
  |_=>none
def uu:Value→Bool | .agg _=>true |_=>false
def qP (P:Program) (t:TypeId) (k e:Vk):Bool:=
 match P.underlying t with
 |some (.map kt _)=>(match eh P 20 kt with |some ks=>k.ks==ks |none=>false)&&(match isAggT P kt with |some a=>k.agg==a |none=>false)
 |_=>false
def nE:Option Operand→List Operand
 |some x=>[x]
 |none=>[]
def bj (P:Program) (ty:TypeId→Option Vk) (op:Op) (d:vN) (as:List Opd):Bool:=
 match d with
 | .mv=>match op,as with
  | .move x,[a]=>bM x a
  | .assign x,[a]=>bM x a
  |_,_=>false
 | .BU=>false
 | .pick=>match op,as with
  | .pick c a b,[c',a',b']=>bM c c'&&bM a a'&&bM b b'
  |_,_=>false
 | .alloc _ zero=>match op,as with
  | .alloc t,[]=>oQ P t zero
  |_,_=>false
 | .box _=>match op,as with
  | .box _ x,[a]=>bM x a
  |_,_=>false
 | .FG=>false
 | .build zero ps=>match op with
  | .build t parts=>oQ P t zero&&qu P t&&fg P t parts.toList ps as
  |_=>false
 | .bn _ e=>match op with
  | .buildSlice t n parts=>xV P t e&&n==as.length&&iz 0 parts.toList as&&(match ty e,P.info? e with
   |some k,some i=>n*k.ks.length≤16777216&&(i.zero.map fun z=>z.cells.size)==some k.ks.length
   |_,_=>false)
  |_=>false
 | .load k=>match op,as with
  | .load t x,[a]=>szOk P t k&&bM x a
  |_,_=>false
 | .store k=>match op,as with
  | .store t x y,[a,b]=>szOk P t k&&bM x a&&bM y b
  |_,_=>false
 | .bin b=>match op,as with
  | .binOp b' _ x y _,[a,c]=>decide (b=b')&&bM x a&&bM y c
  |_,_=>false
 | .eqv neg k=>match op,as with
  | .binOp b t x y _,[a,c]=>nD neg b&&bM x a&&bM y c&&eh P 100 t==some k.ks&&isAggT P t==some k.agg&& !P.eqGuardType P.depth t
  |_,_=>false
 | .qG neg=>match op,as with
  | .binOp b t x y _,[a]=>nD neg b&&DQ P t&&(bM x a&&xU y)
  |_,_=>false
 | .not=>match op,as with
  | .unOp .not _ x,[a]=>bM x a
  |_,_=>false
 | .neg=>false
 | .conv k=>match op,as with
  | .convert s t x,[a]=>(P.underlying s).isSome&&FL P t k&&bM x a
  |_,_=>false
 | .bytes _=>false
 | .slice te lo hi mx=>match op with
  | .slice t x l h m=>(l.isSome==lo)&&(h.isSome==hi)&&(m.isSome==mx)&&(match mx with |true=>lo&&hi |false=>true)&&eB ([x]++nE l++nE h++nE m) as&&(match te with
   |some e=>xV P t e&&(ty e).isSome
   |none=>vU P t)
  |_=>false
 | .qI _ _ _=>false
 | .aR off=>match op,as with
  | .fieldAddr s x f,[a]=>bM x a&&(match P.underlying s with
   |some (.struct fs)=>match fs[f]? with
    |some fd=>fd.offset==off&&(match P.info? fd.type with |some i=>i.size !=0 |none=>false)
    |none=>false
   |_=>false)
  | .indexAddr t x (.const (.int _ i)),[a]=>bM x a&&(match P.underlying t with
   |some (.array n e)=>decide (0≤i)&&decide (i<(n:Int))&&(match P.info? e with |some k9=>k9.size !=0&&i.toNat*k9.size==off |none=>false)
   |_=>false)
  |_,_=>false
 | .part _ _=>false
 | .Aq=>match op,as with
  | .index t x i,[a,b]=>vU P t&&bM x a&&bM i b
  |_,_=>false
 | .DM _ _=>false
 | .Ar n=>match op,as with
  | .indexAddr t x i,[a,b]=>bM x a&&bM i b&&(match P.underlying t with
   |some (.array m e)=>m==n&&(P.info? e).map (·.size)==some 1
   |_=>false)
  |_,_=>false
 | .gV=>match op,as with
  | .nilCheck x,[a]=>bM x a
  |_,_=>false
 | .qH _=>false
 | .aA e=>match op,as with
  | .indexAddr t x i,[a,b]=>xV P t e&&(ty e).isSome&&bM x a&&bM i b
  |_,_=>false
 | .ext j=>match op,as with
  | .extract x j',[a]=>j==j'&&bM x a
  |_,_=>false
 | .len=>match op,as with
  | .call {callee:= .builtin .len,args,argTypes},[a]=>match args.toList,argTypes.toList with
   |[x],[t]=>bM x a&&(match P.underlying t with |some (.slice _)=>true |_=>false)
   |_,_=>false
  |_,_=>false
 | .FF=>false
 | .append _ e GL=>match op,as with
  | .call {callee:= .builtin .append,args,argTypes},[a,b]=>match args.toList,argTypes.toList with
   |[x,y],[t,u]=>bM x a&&bM y b&&xV P t e&&(match P.underlying u with |some (.slice _)=>true |some .string=>true |_=>false)&&(match ty e,P.info? e with
    |some k,some i=>i.bytes==GL&&0<i.bytes&&(i.zero.map fun z=>z.cells.size)==some k.ks.length
    |_,_=>false)
   |_,_=>false
  |_,_=>false
 | .copy _=>false
 | .clear _ _=>false
 | .call _=>match op,as with
  | .call {callee:= .value f,args,..},a::as=>bM f a&&eB args.toList as
  |_,_=>false
 | .xR f=>match op with
  | .makeFunc (.func g) first cap=>f==g&&first.isEmpty&&eB cap.toList as
  |_=>false
 | .BV f=>match op with
  | .makeFunc (.func g) first cap=>f==g&&first.isEmpty&&eB cap.toList as
  |_=>false
 | .ku _ _=>match op,as with
  | .call {callee:= .value f,args,..},[a,b]=>match args.toList with
   |[x]=>bM f a&&bM x b
   |_=>false
  |_,_=>false
 | .yld _ _=>match op,as with
  | .call {callee:= .value f,args,..},[a,b]=>match args.toList with
   |[x]=>bM f a&&bM x b
   |_=>false
  |_,_=>false
 | .BR _ _ _ _=>false
 | .mkMap _ k e=>match op,as with
  | .makeMap t none,[]=>qP P t k e
  |_,_=>false
 | .As k e z ok=>match op,as with
  | .lookup t x y sK,[a,b]=>bM x a&&bM y b&&qP P t k e&&ok==sK&&(match P.underlying t with
   |some (.map _ et)=>e.fits z&&(match P.info? et with
    |some i=>(match i.zero with
     |some zv=>jr zv.cells.toList ((cellsOf z).map fun | .sl e true []=> .zs e true |d=>d)&&uu zv==e.agg
     |none=>false)
    |none=>false)
   |_=>false)
  |_,_=>false
 | .At k e=>match op,as with
  | .mapUpdate t x y z,[a,b,c]=>bM x a&&bM y b&&bM z c&&qP P t k e
  |_,_=>false
 | .mZ _ _=>false
 | .BS=>false
 | .BT _=>false
 | .bad=>true
 | .mn=>match op,as with
  | .call {callee:= .builtin .min,args,..},[a,b]=>match args.toList with
   |[x,y]=>bM x a&&bM y b
   |_=>false
  | .call {callee:= .builtin .min,args,..},[a,b,c]=>match args.toList with
   |[x,y,z]=>bM x a&&(bM y b&&bM z c)
   |_=>false
  |_,_=>false
 | .mx=>false
def nF (ops:Array Oper):Option (Nat×Bool)→Option (Nat×Bool)→Bool
 |none,none=>true
 |some (j,b),some (g,b')=>b==b'&&((ops[j]?).bind (·.dst))==some g
 |_,_=>false
def jZ (P:Program) (ty:TypeId→Option Vk) (ops:Array Oper) (o:Oper) (d:DOper):Bool:=
 o.dst==d.dst&&nF ops o.guard d.guard&&bj P ty o.op d.op d.args&&d.after.all fun e=>o.after.any fun x=>x.on==e&&Region.binds .any x
def dK (P:Program) (ty:TypeId→Option Vk) (ops:Array Oper):List Oper→List DOper→Bool
 |[],[]=>true
 |o::os,d::ds=>jZ P ty ops o d&&dK P ty ops os ds
 |_,_=>false
def backOk:Nat→List Oper→Bool
 |_,[]=>true
 |i,o::os=>(o.after.all fun x=> !Region.binds .any x ||Nat.blt x.on i)&&backOk (i+1) os
def jH:List CellM→List Nat
 |[]=>[]
 | .p _::l=>jH l
 | .o s _::l=>s::jH l
def slotSites:List (Nat×SlotM)→List Nat
 |[]=>[]
 |(_,.p _)::l=>slotSites l
 |(_,.o s _)::l=>s::slotSites l
def objSites:List (Nat×ObjM)→List Nat
 |[]=>[]
 |(i,.a _)::l=>i::objSites l
 |(i,.m _ _)::l=>i::objSites l
 |(i,.v cm)::l=>i::(jH cm++objSites l)
def dstsOf:DCode→List Nat
 | .region _ ops=>ops.filterMap (·.dst)
 | .seq a b=>dstsOf a++dstsOf b
 | .cond c a b=>dstsOf a++dstsOf b
 | .block _ c=>dstsOf c
 | .loop _ c=>dstsOf c
 |_=>[]
def cellTy (ty:TypeId→Option Vk):List CellM→Bool
 |[]=>true
 | .p _::l=>cellTy ty l
 | .o _ e::l=>(ty e).isSome&&cellTy ty l
def slotTy (ty:TypeId→Option Vk):List (Nat×SlotM)→Bool
 |[]=>true
 |(_,.p _)::l=>slotTy ty l
 |(_,.o _ e)::l=>(ty e).isSome&&slotTy ty l
def objTy (ty:TypeId→Option Vk):List (Nat×ObjM)→Bool
 |[]=>true
 |(_,.a _)::l=>objTy ty l
 |(_,.m _ _)::l=>objTy ty l
 |(_,.v cm)::l=>cellTy ty cm&&objTy ty l
def chkCode (P:Program) (ty:TypeId→Option Vk) (N:Nat) (S:List Nat):Code→DCode→Bool
 |_,.bad=>true
 | .skip,.skip=>true
 | .label _,.skip=>true
 | .scope c,d=>chkCode P ty N S c d
 | .region _ ops draw,.region draw' ds=>draw==draw'&&dK P ty ops ops.toList ds&&(!draw ||backOk 0 ops.toList)
 | .seq a b,.seq a' b'=>chkCode P ty N S a a'&&chkCode P ty N S b b'
 | .cond c a b,.cond c' a' b'=>bM c c'&&chkCode P ty N S a a'&&chkCode P ty N S b b'
 | .block i c,.block j c'=>i==j&&chkCode P ty N S c c'
 | .loop c,.loop sh c'=>S.all (fun i=>(sh.objs.map (·.1)).contains i)&&chkCode P ty N (sh.objs.map (·.1)) c c'&&sh.keep.all (fun j=> !(dstsOf c').contains j)&&nodupB (slotSites sh.slots++objSites sh.objs)&&nodupB (sh.slots.map (·.1))&&sh.slots.all (fun p=> !sh.keep.contains p.1)&&slotTy ty sh.slots&&objTy ty sh.objs&&(slotSites sh.slots++objSites sh.objs).all (fun s=>Nat.blt s N)
 | .exit i,.exit j=>i==j
 | .ret,.ret=>true
 |_,_=>false
def chkRes (P:Program):List ResultVar→List ResM→List Rm→Bool
 |[],[],[]=>true
 | .tmp t::rs,.t n::ms,_::ks=>t==n&&chkRes P rs ms ks
 | .cell a t::rs,.c n::ms,.p k::ks=>a==n&&szOk P t k&&k.agg&&chkRes P rs ms ks
 |_,_,_=>false
def lentIds:Nat→List Am→List Nat
 |_,[]=>[]
 |i,.m _::as=>i::lentIds (i+1) as
 |i,.v _::as=>i::lentIds (i+1) as
 |i,_::as=>lentIds (i+1) as
def chkFun (P:Program) (ty:TypeId→Option Vk) (g:Nat) (f:DFun):Bool:=
 match P.funcs[g]? with
 |some fn=>match fn.body with
  |some c=> !(fn.name== "runtime.NumGoroutine")&&fn.ntmps==f.nt&&Nat.ble f.am.length f.nobj&&f.am.all (fun a=>match a with | .g e=>(ty e).isSome |_=>true)&&f.rm.all (fun m=>match m with | .o e=>(ty e).isSome |_=>true)&&chkRes P fn.results.toList f.res f.rm&&chkCode P ty f.nobj (lentIds 0 f.am) c f.body
  |none=>false
 |none=>false
def chkFunW (P:Program) (ty:TypeId→Option Vk) (g:Nat) (f:DFun) (e:TypeId) (n:Nat):Bool:=
 match P.funcs[g]? with
 |some fn=>match fn.body with
  |some c=> !(fn.name== "runtime.NumGoroutine")&&(fn.ntmps==f.nt&&(Nat.ble 4 f.nobj&&((ty e).isSome&&(chkRes P fn.results.toList [.t n] [.p ⟨false,[.int .i64]⟩]&&chkCode P ty f.nobj [1,2] c f.body))))
  |none=>false
 |none=>false
def chkFunI (P:Program) (ty:TypeId→Option Vk) (g:FuncId) (f:DFun) (e:TypeId):Bool:=
 match P.funcs[g]? with
 |some fn=>match fn.body with
  |some c=> !(fn.name== "runtime.NumGoroutine")&&(fn.ntmps==f.nt&&(Nat.ble 4 f.nobj&&((ty e).isSome&&(chkRes P fn.results.toList [] []&&chkCode P ty f.nobj [1] c f.body))))
  |none=>false
 |none=>false
def chkRfC (P:Program) (ty:TypeId→Option Vk) (S:List Nat) (f:RfFun):Code→List DCode→Bool
 | .seq x y,d::ds=>chkCode P ty f.nobj S x d&&chkRfC P ty S f y ds
 | .seq (.seq r (.block _ (.rangeFunc (.tmp n) ps as body))) y,[]=>chkCode P ty f.nobj S r f.mid&&(n==f.fo&&(ps== #[f.bd.p]&&(chkCode P ty f.bd.nobj [1] as f.bd.assign&&(chkCode P ty f.bd.nobj [1] body f.bd.body&&chkCode P ty f.nobj S y f.post))))
 |_,_=>false
def chkFunRf (P:Program) (ty:TypeId→Option Vk) (g:FuncId) (f:RfFun):Bool:=
 match P.funcs[g]? with
 |some fn=>match fn.body with
  |some c=> !(fn.name== "runtime.NumGoroutine")&&(fn.ntmps==f.nt&&(Nat.ble f.am.length f.nobj&&(f.am.all (fun a=>match a with | .g e=>(ty e).isSome |_=>true)&&(f.rm.all (fun m=>match m with | .o e=>(ty e).isSome |_=>true)&&
    (chkRes P fn.results.toList f.res f.rm&&(chkRfC P ty (lentIds 0 f.am) f c f.pre&&(Nat.ble 4 f.bd.nobj&&(!(f.bd.p==f.bd.o)&&(Nat.blt f.bd.p f.nt&&(f.bd.nt==f.nt&&((ty f.e).isSome&&(Nat.blt f.bd.o f.nt&&(chkFunI P ty f.gi f.fi f.e&&Nat.ble f.am.length f.nt)))))))))))))
  |none=>false
 |none=>false
def cN (P:Program) (ty:TypeId→Option Vk):List (Nat×Entry)→Bool
 |[]=>true
 |(g,.code f)::l=>chkFun P ty g f&&cN P ty l
 |(_,.spec _ _)::l=>cN P ty l
 |(g,.wr f e n)::l=>chkFunW P ty g f e n&&cN P ty l
 |(g,.rf f)::l=>chkFunRf P ty g f&&cN P ty l
def zw (P:Program):List (Nat×Vk)→Bool
 |[]=>true
 |(e,k)::l=>szOk P e k&&Nat.blt 0 k.ks.length&&zw P l
end
section
section
variable {C:Cx} {tm:Array Value} {st:St} {G:Gh} {w:World} {P:Program}
theorem m5 {v:Value} {d:D} (h:iy v d=true) (ok:Nat→Prop):RepV C.ty w ok v d:=by
 unfold iy at h
 split at h
 ·simp at h;obtain⟨rfl,rfl⟩:=h;exact .int _ _
 ·simp at h;subst h;exact .bool _
 ·rename_i s t
  have e:s=t:=by
   cases s;cases t;simp at h;simp[h]
  subst e;exact .str _
 ·subst h;exact .zsnil _
 ·exact .nilfn
 ·cases h
theorem jb {v:Value} {d:D} (h:iy v d=true):refsD d=[]∧refs0 d=[]:=by
 unfold iy at h
 split at h<;>first |(cases h;done) |exact⟨rfl,rfl⟩
theorem jc {v:Value} {d:D} (h:iy v d=true) (os:List Obj):RepT0 C os G w v d:=by
 have hr:=m5 (C:=C) (w:=w) h (okB C os G w)
 unfold iy at h
 split at h<;>first |(cases h;done) |exact hr
theorem f_:∀ {vs:List Value} {ds:List D},jr vs ds=true→vs.length=ds.length∧∀ j,j<ds.length→iy (vs.getD j undef) (ds.getD j .undef)=true
 |[],[],_=>⟨rfl,fun j hj=>by simp at hj⟩
 |v::vs,d::ds,h=>by
  simp only[jr,zq3]at h
  obtain⟨h1,h2⟩:=f_ h.2
  refine⟨by simp[h1],fun j hj=> ?_⟩
  cases j with
  |zero=>simpa using h.1
  |succ j=>simpa using h2 j (by simpa using hj)
 |[],_::_,h=>by simp[jr]at h
 |_::_,[],h=>by simp[jr]at h
theorem vV {v:Value} {d:D} (h:ut v d=true) (os:List Obj):RepT C os G w v d∧refsD d=[]:=by
 unfold ut at h
 split at h
 ·rename_i cs ds
  obtain⟨h1,h2⟩:=f_ h
  refine⟨⟨cs,rfl,by simpa using h1,fun j hj=> ?_⟩, ?_⟩
  ·have:=h2 j hj
   have e:cs.toList.getD j undef=cs.getD j undef:=by simp[zq2,zq1]
   rw[e]at this
   exact jc this os
  ·simp only[refsD,refs1,refsL,List.flatMap_eq_nil_iff]
   intro d hd
   obtain⟨j,hj,rfl⟩:=List.getElem_of_mem hd
   have:=h2 j hj
   have e:ds.getD j .undef=ds[j]:=by simp[zq1,hj]
   rw[e]at this
   exact (jb this).2
 ·have hc:=jc (C:=C) (w:=w) (G:=G) h os
  have hr:=jb h
  refine⟨?_,hr.1⟩
  unfold iy at h
  split at h<;>first |(cases h;done) |exact hc
theorem val_rep (h:Rel C tm st G w) {x:Operand} {o:Opd} (hc:bM x o=true) {df:List Deferred}:
  RepT C st.os G w ((Act.eval ⟨tm,df⟩ x)) (o.val st.ts)∧∀ id,id∈refsD (o.val st.ts)→isDead (st.os.getD id .gone)=false:=by
 unfold bM at hc
 split at hc
 ·rename_i t n
  simp at hc
  subst hc
  simp only[Act.eval,Opd.val]
  cases e:st.ts[t]? with
  |none=>
   rw[zq1,e]
   exact⟨trivial,fun id hid=>by simp[refsD,refs1,refs0,refsb]at hid⟩
  |some d=>
   rw[zq1,e]
   exact⟨h.ts t d e,h.rT t d e⟩
 ·rename_i v d
  have:=vV (C:=C) (G:=G) (w:=w) hc st.os
  exact⟨this.1,fun id hid=>by rw[Opd.val,this.2]at hid;cases hid⟩
 ·rename_i f g
  simp at hc
  subst hc
  exact⟨.fn f #[] [] rfl (fun j hj=>by simp at hj),fun id hid=>by simp[Opd.val,refsD,refs1,refs0,refsb]at hid⟩
 ·cases hc
theorem DR {os:List Obj} {rf:List Nat} {id:Nat} {o:Obj} (h:jX os rf id=o) (hne:o≠ .dead):os[id]? =some o∧id∈rf:=by
 unfold jX at h
 split at h
 ·rename_i hc
  rw[zq1]at h
  cases e:os[id]? with
  |none=>rw[e]at h;exact absurd h.symm hne
  |some x=>rw[e]at h;simp at h;subst h;exact⟨rfl,by simpa using hc⟩
 ·exact absurd h.symm hne
theorem oAt_of {os:List Obj} {id:Nat} {o:Obj} (h:os[id]? =some o):oAt os id=oSh o:=by
 simp[oAt,zq1,h]
theorem DS {k:Vk} {v:Value} {blk:Option Nat} {e:TypeId} {nb:Bool} {l:List D} {xs:List Value} {ok:Nat→Prop}
  (hk:C.ty e=some k) (ho:FJ w k.ks.length blk v l.length nb xs) (hf:∀ d,d∈l→k.fits d=true) (hb:∀ g,blk=some g→ok g)
  (hr:∀ i j,i<l.length→j<k.ks.length→RepV C.ty w ok (xs.getD (i*k.ks.length+j) undef) ((l.getD i .undef).cell j)):
  RepV C.ty w ok v (.sl e nb l):=by
 obtain⟨h1,⟨hn,h0,a,rfl,rfl,hsp⟩ |⟨rfl,g,cap,cur,t,rfl,rfl,hg,hnc,hcm,xW,rfl⟩⟩:=ho
 ·have:l=[]:=List.length_eq_zero_iff.1 h0
  subst this
  cases a with
  |none=>exact .slnil e
  |some ad=>exact .sl e ad 0 [] k (fun _ _=>undef) hk (hsp ad rfl) (Nat.le_refl _) hf (fun h=>absurd rfl h) (fun i j hi=>by simp at hi) (fun i j hi=>by simp at hi)
 ·refine .sl e ⟨g,0,none⟩ cap l k (fun i j=>(cur.toList.take (l.length*k.ks.length)).getD (i*k.ks.length+j) undef) hk (fun _=>rfl) hnc hf (fun _=>hb g rfl) (fun i j hi hj=> ?_) hr
  have hlt:i*k.ks.length+j<l.length*k.ks.length:=by
   have:(i+1)*k.ks.length≤l.length*k.ks.length:=Nat.mul_le_mul_right _ hi
   rw[Nat.add_mul]at this
   omega
  have gL:i*k.ks.length+j<cur.size:=by
   have:l.length*k.ks.length≤cap*k.ks.length:=Nat.mul_le_mul_right _ hnc
   omega
  rw[cell_of_row w g _ cur t (0,0) hg]
  simp[zq1,List.getElem?_take,hlt,gL]
theorem RepV.sub {ok:Nat→Prop} {a:Option Addr} {m c:Nat} {e:TypeId} {nb:Bool} {l:List D} {k:Vk} (h:RepV C.ty w ok (.slice a m c) (.sl e nb l)) (hk:C.ty e=some k)
  {off len:Nat} (hl:off+len≤m) {a':Option Addr} (h1:a'.isNone=a.isNone) (h2:∀ x,a'=some x→c - off≠0→x.spot=none)
  (h3:off<c→a'=a.map (fun x=>⟨x.block,x.off+off*k.ks.length,none⟩)):RepV C.ty w ok (.slice a' len (c - off)) (.sl e nb ((l.drop off).take len)):=by
 cases h with
 |slnil e=>
  have:len=0∧off=0:=by omega
  obtain⟨rfl,rfl⟩:=this
  cases a' with
  |none=>exact .slnil e
  |some x=>simp at h1
 |sl e ad c els k' cs hk' hsp hc hf hok hcell hrep=>
  rw[hk]at hk'
  cases hk'
  cases a' with
  |none=>simp at h1
  |some x=>
   have hlen:((l.drop off).take len).length=len:=by simp;omega
   have hsub:∀ d,d∈(l.drop off).take len→d∈l:=fun d hd=>List.mem_of_mem_drop (List.mem_of_mem_take hd)
   have hget:∀ i,i<len→((l.drop off).take len).getD i .undef=l.getD (off+i) .undef:=by
    intro i hi
    simp[zq1,List.getElem?_take,hi]
   have key:RepV C.ty w ok (.slice (some x) ((l.drop off).take len).length (c - off)) (.sl e false ((l.drop off).take len)):=by
    refine .sl e x (c - off) _ k (fun i j=>cs (off+i) j) hk (h2 x rfl) (by omega) (fun d hd=>hf d (hsub d hd)) ?_ ?_ ?_
    ·intro hne
     have oR:off<c:=by
      rcases Nat.lt_or_ge off c with h |h
      ·exact h
      ·exfalso;apply hne
       have:len=0:=by omega
       subst this;simp
     have:=h3 oR
     simp at this
     subst this
     exact hok (by intro h0;subst h0;simp at hne)
    ·intro i j hi hj
     rw[hlen]at hi
     have oR:off<c:=by omega
     have:=h3 oR
     simp at this
     subst this
     have:=hcell (off+i) j (by omega) hj
     rw[←this]
     have e:ad.off+off*k.ks.length+(i*k.ks.length+j)=ad.off+((off+i)*k.ks.length+j):=by rw[Nat.add_mul];omega
     show w.cell? ⟨ad.block,ad.off+off*k.ks.length+(i*k.ks.length+j),none⟩=_
     rw[e]
    ·intro i j hi hj
     rw[hlen]at hi
     rw[hget i hi]
     exact hrep (off+i) j (by omega) hj
   rw[hlen]at key
   exact key
end
end
section
theorem qQ {os:List Obj} {id:Nat} {o:Obj} (h:os[id]? =some o):os.set id o=os:=by
 apply List.ext_getElem?
 intro j
 rw[List.getElem?_set]
 split
 ·rename_i e
  subst e
  split
  ·exact h.symm
  ·rename_i hl
   simp at hl
   simp[List.getElem?_eq_none hl]
 ·rfl
theorem oS (G:Gh) (id:Nat):(fun j=>if j=id then G id else G j)=G:=by
 funext j
 split
 ·rename_i e;rw[e]
 ·rfl
def Fz (os0 os:List Obj):Prop:=∀ (id:Nat) (o:Obj),os0[id]? =some o→os[id]? =some o∨(∃ e nb l,o= .arr e nb l∧os[id]? =some (.fro e nb l))∨
 (∃ cs,o= .var cs∧os[id]? =some (.frv (cs.map dJ)))
theorem Fz.refl (os:List Obj):Fz os os:=fun _ _ h=> .inl h
theorem Fz.set {os0 os:List Obj} (h:Fz os0 os) {id:Nat} {o':Obj} (hn:∀ o:Obj,os0[id]? =some o→o'=o∨(∃ e nb l,o= .arr e nb l∧o'= .fro e nb l)∨(∃ cs,o= .var cs∧o'= .frv (cs.map dJ))):
  Fz os0 (os.set id o'):=by
 intro j o hj
 by_cases e:id=j
 ·subst e
  have hlt:id<os.length:=by
   rcases h id o hj with h' |⟨_,_,_,_,h'⟩ |⟨_,_,h'⟩<;>
   ·rcases Nat.lt_or_ge id os.length with Jc |Jc
    ·exact Jc
    ·simp[List.getElem?_eq_none Jc]at h'
  rw[List.getElem?_set_self hlt]
  rcases hn o hj with rfl |⟨e,nb,l,h1,h2⟩ |⟨cs,h1,h2⟩
  ·exact .inl rfl
  ·exact .inr (.inl ⟨e,nb,l,h1,by rw[h2]⟩)
  ·exact .inr (.inr ⟨cs,h1,by rw[h2]⟩)
 ·rw[List.getElem?_set_ne e]
  exact h j o hj
section
variable {C:Cx} {tm:Array Value} {ts:List D} {os os0:List Obj} {G:Gh} {w:World} {V:Vw}
theorem okB.nG {id:Nat} {o:Obj} (hl:live o=false) {b:Nat} (h:okB C os G w b):okB C (os.set id o) G w b:=by
 refine⟨h.1,fun ⟨j,oj,hj,hlj,hb⟩=>h.2.1 ?_,h.2.2⟩
 rw[List.getElem?_set]at hj
 split at hj
 ·split at hj
  ·cases hj;rw[hl]at hlj;cases hlj
  ·cases hj
 ·exact⟨j,oj,hj,hlj,hb⟩
theorem Rel.FM (h:Rel C tm ⟨ts,os⟩ G w) {id:Nat} {e:TypeId} {nb:Bool} {l:List D} (hid:os[id]? =some (.arr e nb l)):Rel C tm ⟨ts,os.set id (.fro e nb l)⟩ G w:=by
 have ho:=h.os id _ hid
 obtain⟨k,xs,hk,hown,hf,hr⟩:=ho
 have hok:∀ b,okB C os G w b→okB C (os.set id (.fro e nb l)) G w b:=fun b hb=>hb.nG rfl
 have hlt:id<os.length:=(zq6.1 hid).1
 have:=h.GK (id:=id) (o:= .arr e nb l) (o':= .fro e nb l) (gh:=G id) (w':=w) hid (.inr ⟨rfl,.inl rfl⟩) rfl (fun hl=>by cases hl) (fun _ _ _=>rfl) (Nat.le_refl _) rfl rfl rfl (by
   simp only[ObjRel,if_true,oS]
   refine DS hk hown hf ?_ (fun i j hi hj=>(hr i j hi hj).mono hok (fun _ _=>rfl))
   intro g hg
   have hX:=h.inX g ⟨id,_,hid,rfl,hg⟩
   refine⟨hX.2.1,fun ⟨j,oj,hj,hlj,hb⟩=> ?_,hX.1⟩
   rw[List.getElem?_set]at hj
   by_cases e':id=j
   ·subst e'
    simp[hlt]at hj
    subst hj
    cases hlj
   ·simp only[e',if_false]at hj
    exact e' (h.inj id j _ oj g hid hj rfl hlj hg hb)) (fun i hi=>by simp[refsO]at hi)
 rwa [oS]at this
theorem RepT0.toV {v:Value} {d:D} (h:RepT0 C os G w v d) (hp:pure0 d=true):RepV C.ty w (okB C os G w) v d:=by
 cases d<;>first |(simp[pure0]at hp;done) |exact h
structure oT (C:Cx) (tm:Array Value) (ts:List D) (os0 os:List Obj) (G:Gh) (w:World) (ws:Wr):Prop where
 rel:Rel C tm ⟨ts,wrL os ws⟩ G w
 fz:Fz os0 (wrL os ws)
 ok:∀ b,okB C os G w b→okB C (wrL os ws) G w b
 sh:∀ id,oAt (wrL os ws) id=oAt os id
theorem oT.nil (h:Rel C tm ⟨ts,os⟩ G w) (hz:Fz os0 os):oT C tm ts os0 os G w []:=⟨h,hz,fun _ h=>h,fun _=>rfl⟩
theorem tk (h:Rel C tm ⟨ts,os⟩ G w) (hz:Fz os0 os) {id:Nat} {e:TypeId} {nb:Bool} {l:List D} (hid:os0[id]? =some (.arr e nb l)):
  oT C tm ts os0 os G w [(id,.fro e nb l)]∧(wrL os [(id,.fro e nb l)])[id]? =some (.fro e nb l):=by
 have hf:Fz os0 (os.set id (.fro e nb l)):=hz.set fun o ho=>by rw[hid]at ho;cases ho;exact .inr (.inl ⟨e,nb,l,rfl,rfl⟩)
 rcases hz id _ hid with h' |⟨e',nb',l',h1,h'⟩ |⟨cs,h1,_⟩
 ·have hlt:id<os.length:=(zq6.1 h').1
  refine⟨⟨h.FM h',hf,fun b hb=>hb.nG rfl,fun i=> ?_⟩,by simp[wrL,hlt]⟩
  simp only[wrL]
  rw[dE hlt]
  split
  ·rename_i e;subst e;rw[oAt_of h'];rfl
  ·rfl
 ·cases h1
  have:=qQ h'
  simp only[wrL,this]
  exact⟨⟨by simpa[wrL,this]using h,by simpa[wrL,this]using hz,fun b hb=>by simpa[wrL,this]using hb,fun i=>by simp[wrL,this]⟩,h'⟩
 ·cases h1
theorem uv (hV:∀ id o,V id=o→o≠ .dead→os0[id]? =some o) (h:Rel C tm ⟨ts,os⟩ G w) (hz:Fz os0 os) {v:Value} {d:D} (hd:RepT0 C os G w v d)
  (hp:pure0 (cA V d).1=true):oT C tm ts os0 os G w (cA V d).2∧RepV C.ty w (okB C (wrL os (cA V d).2) G w) v (cA V d).1:=by
 cases d with
 |own e' id n=>
  cases e:V id with
  |arr e1 nb l=>
   simp only[cA,e]at hp⊢
   have hid:=hV id _ e (by simp)
   obtain⟨h1,h2⟩:=tk h hz hid
   refine⟨h1, ?_⟩
   have ho:=h1.rel.os id _ h2
   simp only[ObjRel]at ho
   have hs:=h1.sh id
   rw[oAt_of h2]at hs
   simp only[RepT0,←hs,oSh]at hd
   rw[hd.2.2.2];exact ho
  |fro e1 nb l=>
   simp only[cA,e]at hp⊢
   have hid:=hV id _ e (by simp)
   have hid':os[id]? =some (.fro e1 nb l):=by
    rcases hz id _ hid with h' |⟨_,_,_,h1,_⟩ |⟨_,h1,_⟩
    ·exact h'
    ·cases h1
    ·cases h1
   refine⟨.nil h hz, ?_⟩
   have ho:=h.os id _ hid'
   simp only[ObjRel]at ho
   simp only[RepT0,oAt_of hid',oSh]at hd
   rw[hd.2.2.2];exact ho
  |_=>simp[cA,e,pure0]at hp
 |ownv e' id off len=>
  cases e:V id with
  |arr e1 nb l=>
   simp only[cA,e]at hp⊢
   have hid:=hV id _ e (by simp)
   obtain⟨h1,h2⟩:=tk h hz hid
   refine⟨h1, ?_⟩
   have ho:=h1.rel.os id _ h2
   simp only[ObjRel]at ho
   have hs:=h1.sh id
   rw[oAt_of h2]at hs
   simp only[RepT0,←hs,oSh]at hd
   obtain⟨_,h3,h4,a,c,k,h5,h6,a',h7,h8,h9,h10⟩:=hd
   rw[h7]
   rw[h6]at ho
   exact ho.sub h5 h4 h8 h9 h10
  |fro e1 nb l=>
   simp only[cA,e]at hp⊢
   have hid:=hV id _ e (by simp)
   have hid':os[id]? =some (.fro e1 nb l):=by
    rcases hz id _ hid with h' |⟨_,_,_,h1,_⟩ |⟨_,h1,_⟩
    ·exact h'
    ·cases h1
    ·cases h1
   refine⟨.nil h hz, ?_⟩
   have ho:=h.os id _ hid'
   simp only[ObjRel]at ho
   simp only[RepT0,oAt_of hid',oSh]at hd
   obtain⟨_,h3,h4,a,c,k,h5,h6,a',h7,h8,h9,h10⟩:=hd
   rw[h7]
   rw[h6]at ho
   exact ho.sub h5 h4 h8 h9 h10
  |_=>simp[cA,e,pure0]at hp
 |zs e nb=>
  simp only[cA]at hp⊢
  refine⟨.nil h hz, ?_⟩
  simp only[RepT0]at hd
  cases hd with
  |zsnil e=>exact .slnil e
  |zs e ad k hk hsp=>exact .sl e ad 0 [] k (fun _ _=>undef) hk hsp (Nat.le_refl _) (fun d hd=>by cases hd) (fun h=>absurd rfl h) (fun i j hi=>by simp at hi) (fun i j hi=>by simp at hi)
 |undef=>simp[cA,pure0]at hp
 |agg _=>simp[cA,pure0]at hp
 |tup _=>simp[cA,pure0]at hp
 |ptr _ _=>simp[cA,pure0]at hp
 |elp _ _ _ _=>simp[cA,pure0]at hp
 |ela _ _ _=>simp[cA,pure0]at hp
 |elaP _ _ _ _ _=>simp[cA,pure0]at hp
 |ov _ _ _=>simp[cA,pure0]at hp
 |pv _=>simp[cA,pure0]at hp
 |mo _=>simp[cA,pure0]at hp
 |mpv _ _=>simp[cA,pure0]at hp
 |fnr _ _=>simp[cA,pure0]at hp
 |yl _=>simp[cA,pure0]at hp
 |_=>exact⟨.nil h hz,hd⟩
theorem bO (os:List Obj) (a b:Wr):wrL os (a++b)=wrL (wrL os a) b:=by
 induction a generalizing os with
 |nil=>rfl
 |cons x xs ih=>cases x;exact ih _
theorem oT.append {a b:Wr} (h1:oT C tm ts os0 os G w a) (h2:oT C tm ts os0 (wrL os a) G w b):oT C tm ts os0 os G w (a++b):=
 ⟨by rw[bO];exact h2.rel,by rw[bO];exact h2.fz,fun b hb=>by rw[bO];exact h2.ok b (h1.ok b hb),fun id=>by rw[bO,h2.sh,h1.sh]⟩
theorem RepT0.sh {os':List Obj} {v:Value} {d:D} (h:RepT0 C os G w v d) (hok:∀ b,okB C os G w b→okB C os' G w b) (nB:∀ id,oAt os' id=oAt os id):RepT0 C os' G w v d:=
 h.mono hok (fun _ _=>rfl) fun id _=> .inl ⟨nB id,rfl⟩
theorem zx (hV:∀ id o,V id=o→o≠ .dead→os0[id]? =some o):∀ (ds:List D) (os:List Obj),Rel C tm ⟨ts,os⟩ G w→Fz os0 os→∀ (vs:Nat→Value),(∀ j,j<ds.length→RepT0 C os G w (vs j) (ds.getD j .undef))→
  (frzL V ds).1.all pure0=true→oT C tm ts os0 os G w (frzL V ds).2∧(frzL V ds).1.length=ds.length∧∀ j,j<ds.length→RepV C.ty w (okB C (wrL os (frzL V ds).2) G w) (vs j) ((frzL V ds).1.getD j .undef)
 |[],os,h,hz,vs,hd,hp=>⟨.nil h hz,rfl,fun j hj=>by simp at hj⟩
 |d::ds,os,h,hz,vs,hd,hp=>by
  simp only[frzL,List.all_cons,zq3]at hp
  obtain⟨h1,h2⟩:=uv hV h hz (by simpa using hd 0 (by simp)) hp.1
  obtain⟨h3,h4,h5⟩:=zx hV ds (wrL os (cA V d).2) h1.rel h1.fz (fun j=>vs (j+1)) (fun j hj=>by
   have:=hd (j+1) (by simpa using hj)
   simp only[List.getD_cons_succ]at this
   exact this.sh h1.ok h1.sh) hp.2
  refine⟨h1.append h3,by simp[frzL,h4],fun j hj=> ?_⟩
  simp only[frzL,bO]
  cases j with
  |zero=>exact h2.mono h3.ok (fun _ _=>rfl)
  |succ j=>simpa using h5 j (by simpa using hj)
theorem Rel.FN (h:Rel C tm ⟨ts,os⟩ G w) {id:Nat} {cs cs':List D} (hid:os[id]? =some (.var cs)) (hl:cs'.length=cs.length) (hp:∀ d,d∈cs'→pure0 d=true)
  (hr:∀ cells t g,G id=(.pointer (some ⟨g,0,none⟩),some g)→w.heap[g]? =some (.cells cells t (0,0))→∀ j,j<cs.length→RepV C.ty w (okB C os G w) (cells.getD j undef) (cs'.getD j .undef)):
  Rel C tm ⟨ts,os.set id (.frv cs')⟩ G w:=by
 have ho:=h.os id _ hid
 obtain⟨g,cells,t,hg,hh,hsz,xW⟩:=ho
 have hok:∀ b,okB C os G w b→okB C (os.set id (.frv cs')) G w b:=fun b hb=>hb.nG rfl
 have hlt:id<os.length:=(zq6.1 hid).1
 have:=h.GK (id:=id) (o:= .var cs) (o':= .frv cs') (gh:=G id) (w':=w) hid (.inr ⟨rfl,.inl (by simp[oSh,hl])⟩) rfl (fun hl=>by cases hl) (fun _ _ _=>rfl) (Nat.le_refl _) rfl rfl rfl (by
   simp only[ObjRel,if_true,oS]
   rw[hg]
   refine .rp g cs' 0 (fun j=>cells.getD j undef) hp ?_ (fun j hj=> ?_) (fun j hj=>(hr cells t g hg hh j (by omega)).mono hok (fun _ _=>rfl))
   ·have hX:=h.inX g ⟨id,_,hid,rfl,by rw[hg]⟩
    refine⟨hX.2.1,fun ⟨j,oj,hj,hlj,hb⟩=> ?_,hX.1⟩
    rw[List.getElem?_set]at hj
    by_cases e':id=j
    ·subst e'
     simp[hlt]at hj
     subst hj
     cases hlj
    ·simp only[e',if_false]at hj
     exact e' (h.inj id j _ oj g hid hj rfl hlj (by rw[hg]) hb)
   ·rw[cell_of_row w g j cells t (0,0) hh]
    have:j<cells.size:=by omega
    simp[zq2,this]) (fun i hi=>by simp[refsO]at hi)
 rwa [oS]at this
theorem xX (hV:∀ id o,V id=o→o≠ .dead→os0[id]? =some o) (h:Rel C tm ⟨ts,os⟩ G w) (hz:Fz os0 os) {v:Value} {d:D} (hd:RepT C os G w v d)
  (hp:pureD (frz V d).1=true):oT C tm ts os0 os G w (frz V d).2∧RepV C.ty w (okB C (wrL os (frz V d).2) G w) v (frz V d).1:=by
 have xY:∀ d',RepT0 C os G w v d'→pure0 (cA V d').1=true→oT C tm ts os0 os G w (cA V d').2∧RepV C.ty w (okB C (wrL os (cA V d').2) G w) v (cA V d').1:=
  fun d' h1 h2=>uv hV h hz h1 h2
 cases d with
 |agg cs=>
  simp only[frz,pureD]at hp⊢
  obtain⟨cells,rfl,h1,h2⟩:=hd
  obtain⟨h3,h4,h5⟩:=zx hV cs os h hz (fun j=>cells.getD j undef) h2 hp
  exact⟨h3,.agg cells _ (by omega) (fun j hj=>h5 j (by omega))⟩
 |tup ds=>simp[frz,cA,pureD,pure0]at hp
 |ptr id off=>
  simp only[RepT,RepT1]at hd
  cases e:V id with
  |var cs=>
   simp only[frz,e]at hp⊢
   have hid:=hV id _ e (by simp)
   have xW:∀ d∈cs.map dJ,pure0 d=true:=by
    simp only[pureD,pure0,rpOk,Bool.true_and,List.all_eq_true]at hp
    exact hp
   have key:∀ os',Rel C tm ⟨ts,os'⟩ G w→os'[id]? =some (.frv (cs.map dJ))→RepT0 C os' G w v (.ptr id off)→RepV C.ty w (okB C os' G w) v (.rp (cs.map dJ) off):=by
    intro os' h' hid' hd'
    have ho:=h'.os id _ hid'
    simp only[ObjRel]at ho
    simp only[RepT0,oAt_of hid',oSh]at hd'
    obtain⟨_,g,h1,h2⟩:=hd'
    rw[h1]at ho
    rw[h2]
    cases ho with
    |rp b cs qR vals hp hok hcell hrep=>exact .rp g _ off vals hp hok hcell hrep
   rcases hz id _ hid with h' |⟨_,_,_,h1,_⟩ |⟨M2,h1,h'⟩
   ·have hlt:id<os.length:=(zq6.1 h').1
    have hrel:=h.FN h' (cs':=cs.map dJ) (by simp) xW (fun cells t g hg hh j hj=>by
     obtain⟨g',cells',t',KH,Hc,hsz,hc⟩:=h.os id _ h'
     rw[hg]at KH
     cases KH
     rw[hh]at Hc
     cases Hc
     have h3:=(hc j hj).1
     have h4:pure0 ((cs.map dJ).getD j .undef)=true:=xW _ (mem_getD (by simpa using hj))
     have h5:(cs.map dJ).getD j .undef=dJ (cs.getD j .undef):=by simp[zq1,hj]
     rw[h5]at h4⊢
     generalize cs.getD j .undef=d0 at h3 h4
     have:=(uv (V:=fun _=> .dead) (os0:=os) (fun id o h hne=>absurd h.symm hne) h (.refl os) h3 (by
      cases d0<;>first |exact h4 |(simp[dJ,pure0]at h4;done))).2
     cases d0<;>first |exact this |(simp[dJ,pure0]at h4;done))
    have hok:∀ b,okB C os G w b→okB C (os.set id (.frv (cs.map dJ))) G w b:=fun b hb=>hb.nG rfl
    have nB:∀ i,oAt (os.set id (.frv (cs.map dJ))) i=oAt os i:=fun i=>by
     rw[dE hlt]
     split
     ·rename_i e;subst e;rw[oAt_of h'];simp[oSh]
     ·rfl
    refine⟨⟨hrel,hz.set fun o ho=>by rw[hid]at ho;cases ho;exact .inr (.inr ⟨cs,rfl,rfl⟩),hok,nB⟩, ?_⟩
    exact key (os.set id (.frv (cs.map dJ))) hrel (List.getElem?_set_self hlt) (RepT0.sh hd hok nB)
   ·cases h1
   ·cases h1
    have e':wrL os [(id,.frv (cs.map dJ))]=os:=qQ h'
    refine⟨⟨by rw[e'];exact h,by rw[e'];exact hz,fun b hb=>by rw[e'];exact hb,fun i=>by rw[e']⟩, ?_⟩
    rw[e']
    exact key _ h h' hd
  |frv cs=>
   simp only[frz,e]at hp⊢
   have hid:=hV id _ e (by simp)
   have hid':os[id]? =some (.frv cs):=by
    rcases hz id _ hid with h' |⟨_,_,_,h1,_⟩ |⟨_,h1,_⟩
    ·exact h'
    ·cases h1
    ·cases h1
   refine⟨.nil h hz, ?_⟩
   have ho:=h.os id _ hid'
   simp only[ObjRel]at ho
   simp only[RepT0,oAt_of hid',oSh]at hd
   obtain⟨_,g,h1,h2⟩:=hd
   rw[h1]at ho
   rw[h2]
   cases ho with
   |rp b cs qR vals hp hok hcell hrep=>exact .rp g cs off vals hp hok hcell hrep
  |_=>simp[frz,e,pureD,pure0]at hp
 |undef=>simp[frz,cA,pureD,pure0]at hp
 |own e id n=>
  refine xY _ hd ?_
  simp only[frz,cA]at hp⊢
  split at hp<;>first |rfl |(simp[pureD,pure0]at hp;done) |simp_all [pureD,pure0,rpOk]
 |ownv e id o n=>
  refine xY _ hd ?_
  simp only[frz,cA]at hp⊢
  split at hp<;>first |rfl |(simp[pureD,pure0]at hp;done) |simp_all [pureD,pure0,rpOk]
 |_=>
  refine xY _ hd ?_
  simp only[frz,cA,pureD,zq3]at hp⊢
  exact hp.1
end
end
section
def co (C:Cx) (tm:Array Value) (st:St) (G:Gh) (w:World) (v:D) (ws:Wr) (r:Result Next):Prop:=
 ∃ v' w' G',(r= .ok (.value v') w'∨(v'=undef∧r= .ok .skip w'))∧Rel C tm ⟨st.ts,wrL st.os ws⟩ G' w'∧RepT C (wrL st.os ws) G' w' v' v∧
  (∀ id,id∈refsD v→isDead ((wrL st.os ws).getD id .gone)=false)∧∀ i,isDead (st.os.getD i .gone)=false→G' i=G i
def vW (C:Cx) (P:Program):Prop:=∀ e k,C.ty e=some k→szOk P e k=true∧0<k.ks.length
section
variable {C:Cx} {P:Program} {E:Env} {tm:Array Value} {st:St} {G:Gh} {w:World} {ρ:Operand→Value} {o:Oper}
theorem co.val (h:Rel C tm st G w) {v:D} {v':Value} {r:Result Next} (hr:r= .ok (.value v') w) (hv:RepT C st.os G w v' v)
  (hd:∀ id,id∈refsD v→isDead (st.os.getD id .gone)=false):co C tm st G w v [] r:=
 ⟨v',w,G,.inl hr,h,hv,hd,fun _ _=>rfl⟩
theorem dv {t:TypeId} {k:Vk} (h:szOk P t k=true):∃ i,P.info? t=some i∧i.size=k.ks.length∧isAggT P t=some k.agg∧(k.agg=false→k.ks.length=1):=by
 simp only[szOk,zq3,beq_iff_eq,Bool.or_eq_true]at h
 obtain⟨⟨h1,h2⟩,h3⟩:=h
 cases e:P.info? t with
 |none=>rw[e]at h1;simp at h1
 |some i=>
  rw[e]at h1
  simp at h1
  exact⟨i,rfl,h1,h2,fun hk=>by rcases h3 with h3 |h3;· rw[hk]at h3;cases h3
                               ·exact h3⟩
theorem tr {t:TypeId} {b:Bool} (h:isAggT P t=some b) (w:World):(isAgg t).run P w= .ok b w:=by
 unfold isAggT at h
 unfold isAgg
 cases e:P.underlying t with
 |none=>rw[e]at h;simp at h
 |some d=>
  rw[e]at h
  rw[Sem.run_bind,run_underlying e]
  cases d<;>simp_all
theorem run_sizeOf {t:TypeId} {i:TypeInfo} (h:P.info? t=some i) (w:World):(sizeOf t).run P w= .ok i.size w:=by
 simp[sizeOf,typeInfo,h]
theorem RepT0.up {os:List Obj} {v:Value} {d:D} (h:RepT0 C os G w v d):RepT C os G w v d:=by
 cases d<;>first |exact h |exact h.elim
theorem RepV.t0 {os:List Obj} {v:Value} {d:D} (h:RepV C.ty w (okB C os G w) v d) (hp:pure0 d=true):RepT0 C os G w v d:=by
 cases d<;>first |exact h |(simp[pure0]at hp;done)
theorem ij {d:D} (h:pure0 d=true):refs0 d=[]∧refsD d=[]:=by
 cases d<;>first |exact⟨rfl,rfl⟩ |(simp[pure0]at h;done)
theorem zy (h:Rel C tm st G w) {x:Operand} {a:Opd} (aW:o.op= .move x∨o.op= .assign x)
  (hv:RepT C st.os G w (ρ x) (a.val st.ts)∧∀ id,id∈refsD (a.val st.ts)→isDead (st.os.getD id .gone)=false):
  co C tm st G w (a.val st.ts) [] ((execOp ρ o).run P w):=by
 refine .val h ?_ hv.1 hv.2
 rcases aW with e |e<;>simp[execOp,e]
theorem Aw (h:Rel C tm st G w) {x y z:Operand} {c:Bool} {a b:D} (aW:o.op= .pick x y z) (hx:ρ x= .bool c)
  (ha:RepT C st.os G w (ρ y) a∧∀ id,id∈refsD a→isDead (st.os.getD id .gone)=false)
  (hb:RepT C st.os G w (ρ z) b∧∀ id,id∈refsD b→isDead (st.os.getD id .gone)=false):
  co C tm st G w (match c with |true=>a |false=>b) [] ((execOp ρ o).run P w):=by
 cases c with
 |true=>exact .val h (by simp[execOp,aW,hx,asBool]) ha.1 ha.2
 |false=>exact .val h (by simp[execOp,aW,hx,asBool]) hb.1 hb.2
theorem bF {os:List Obj} {v:Value} {k:IntKind} {n:Int} (h:RepT C os G w v (.int k n)):v= .int k n:=by
 cases h;rfl
theorem inv_bool {os:List Obj} {v:Value} {b:Bool} (h:RepT C os G w v (.bool b)):v= .bool b:=by cases h;rfl
theorem eH {os:List Obj} {v:Value} {s:ByteArray} (h:RepT C os G w v (.str s)):v= .string s:=by cases h;rfl
theorem fh (h:Rel C tm st G w) {r:Result Next} {k:IntKind} {n:Int} (hr:r= .ok (.value (.int k n)) w):co C tm st G w (.int k n) [] r:=
 .val h hr (.int k n) (fun id hid=>by simp[refsD,refs1,refs0,refsb]at hid)
theorem il (h:Rel C tm st G w) {r:Result Next} {b:Bool} (hr:r= .ok (.value (.bool b)) w):co C tm st G w (.bool b) [] r:=
 .val h hr (.bool b) (fun id hid=>by simp[refsD,refs1,refs0,refsb]at hid)
theorem vX (h:Rel C tm st G w) {r:Result Next} {s:ByteArray} (hr:r= .ok (.value (.string s)) w):co C tm st G w (.str s) [] r:=
 .val h hr (.str s) (fun id hid=>by simp[refsD,refs1,refs0,refsb]at hid)
abbrev KS:D→Wr→Option (D×Wr):=fun v ws=>some (v,ws)
theorem dw {b:BinOp} {t:TypeId} {x y:Operand} {u v:Value} (h1:u≠ .nilIface) (h2:∀ cs,u≠ .agg cs) (w:World):(eqGuard b t x y u v).run P w= .ok () w:=by
 cases u<;>first |exact absurd rfl h1 |exact absurd rfl (h2 _) |(cases b<;>rfl)
theorem BZ (h:Rel C tm st G w) {b:BinOp} {t t':TypeId} {x y:Operand} {d1 d2 v:D} {ws:Wr} (aW:o.op= .binOp b t x y t')
  (hx:RepT C st.os G w (ρ x) d1) (hy:RepT C st.os G w (ρ y) d2) (he:Au KS b [d1,d2]=some (v,ws)):
  co C tm st G w v ws ((execOp ρ o).run P w):=by
 cases d1<;>cases d2<;>simp only[Au]at he<;>try (cases he;done)
 ·rename_i k a k' c
  have e1:=bF hx
  have e2:=bF hy
  have hg:(eqGuard b t x y (Value.int k a) (Value.int k' c)).run P w= .ok () w:=dw (by simp) (by simp) w
  cases hs:DN b with
  |true=>
   simp only[hs]at he
   cases b<;>simp[DN]at hs
   ·simp only[s9]at he
    split at he
    ·cases he
    ·cases he
     rename_i vY
     exact fh h (by simp[execOp,aW,e1,e2,hg,binOp,Op.shift,vY])
   ·simp only[s9]at he
    split at he
    ·cases he
    ·cases he
     rename_i vY
     exact fh h (by simp[execOp,aW,e1,e2,hg,binOp,Op.shift,vY])
  |false=>
   simp only[hs]at he
   split at he
   ·rename_i hk
    subst hk
    cases b<;>simp[DN]at hs<;>simp only[qJ]at he<;>
     first
      |(cases he;exact fh h (by simp[execOp,aW,e1,e2,hg,binOp,Op.intArith,Op.intBits]))
      |(cases he;exact il h (by simp[execOp,aW,e1,e2,hg,binOp,Op.intCmp]))
      |(split at he
        ·cases he
        ·cases he
         rename_i h0
         exact fh h (by simp[execOp,aW,e1,e2,hg,binOp,Op.intDiv,h0]))
   ·cases he
 ·rename_i s1 s2
  have e1:=eH hx
  have e2:=eH hy
  have hg:(eqGuard b t x y (Value.string s1) (Value.string s2)).run P w= .ok () w:=dw (by simp) (by simp) w
  cases b<;>simp only[qK]at he<;>
   first
    |(cases he;done)
    |(cases he;exact il h (by simp[execOp,aW,e1,e2,hg,binOp,Op.stringOp]))
    |(split at he
      ·cases he
      ·cases he
       rename_i h0
       exact vX h (by simp only[execOp,aW,e1,e2,hg,binOp,Op.stringOp,Sem.run_bind,Result.andThen_ok,h0,if_false];rfl))
end
end
section
section
variable {C:Cx} {P:Program} {E:Env} {tm:Array Value} {st:St} {G:Gh} {w:World} {ρ:Operand→Value} {o:Oper}
theorem B0 (h:Rel C tm st G w) {t:TypeId} {x:Operand} {b:Bool} (aW:o.op= .unOp .not t x) (hx:RepT C st.os G w (ρ x) (.bool b)):
  co C tm st G w (.bool (!b)) [] ((execOp ρ o).run P w):=il h (by simp[execOp,aW,inv_bool hx,Op.unary])
theorem Ax (h:Rel C tm st G w) {s t:TypeId} {x:Operand} {k k':IntKind} {n:Int} (aW:o.op= .convert s t x) (hs:(P.underlying s).isSome=true) (ht:FL P t k=true)
  (hx:RepT C st.os G w (ρ x) (.int k' n)):co C tm st G w (.int k (k.wrap n)) [] ((execOp ρ o).run P w):=by
 unfold FL at ht
 split at ht
 ·rename_i k2 hk
  simp at ht
  subst ht
  cases e:P.underlying s with
  |none=>simp[e]at hs
  |some d=>exact fh h (by simp[execOp,aW,bF hx,convert,run_underlying e,run_underlying hk,Conv.intToInt])
 ·cases ht
theorem B1 (h:Rel C tm st G w) {x:Operand} {j:Nat} {ds:List D} (aW:o.op= .extract x j) (hj:j<ds.length)
  (hx:RepT C st.os G w (ρ x) (.tup ds)) (hd:∀ id,id∈refsD (.tup ds)→isDead (st.os.getD id .gone)=false):
  co C tm st G w (ds.getD j .undef) [] ((execOp ρ o).run P w):=by
 obtain⟨vs,h1,h2,h3⟩:=hx
 have h4:=h3 j hj
 have hm:=mem_getD hj
 generalize ds.getD j .undef=d at h4 hm
 have hr:RepT C st.os G w (vs.getD j undef) d∧refsD d=refs1 d:=by
  cases d<;>first |exact⟨h4,rfl⟩ |exact h4.elim
 refine .val h (v':=vs.getD j undef) ?_ hr.1 (fun id hid=>hd id ?_)
 ·have:j<vs.size:=by omega
  simp[execOp,aW,h1,Instr.extract,this,zq2]
 ·rw[hr.2]at hid
  exact List.mem_flatMap.2 ⟨d,hm,hid⟩
theorem uw {os:List Obj} {v:Value} {d:D} {n:Nat} (hv:RepT C os G w v d) (hn:jE d=some n):qO v n:=by
 cases d with
 |sl e nb l=>
  simp only[jE,zq5]at hn
  subst hn
  simp only[RepT,RepT1,RepT0]at hv
  cases hv with
  |slnil=>exact⟨none,0,rfl,Nat.le_refl _,fun _=>rfl,(fun x hx=>by cases hx)⟩
  |sl e ad c els k cs hk hsp hc=>exact⟨some ad,c,rfl,hc,(fun h=>by cases h),(fun x hx=>by cases hx;exact hsp)⟩
 |zs e nb=>
  simp only[jE,zq5]at hn
  subst hn
  simp only[RepT,RepT1,RepT0]at hv
  cases hv with
  |zsnil=>exact⟨none,0,rfl,Nat.le_refl _,fun _=>rfl,(fun x hx=>by cases hx)⟩
  |zs e ad k hk hsp=>exact⟨some ad,0,rfl,Nat.le_refl _,fun _=>rfl,(fun x hx=>by cases hx;exact hsp)⟩
 |own e id m=>
  simp only[jE,zq5]at hn
  subst hn
  exact hv.1
 |ownv e id off len=>
  simp only[jE,zq5]at hn
  subst hn
  exact hv.1
 |_=>simp[jE]at hn
theorem Hd {α:Type} {a:Array α} {x:α} (h:a.toList=[x]):a= #[x]:=by rw[←Array.toList_inj];simpa using h
theorem FO {α:Type} {a:Array α} {x y:α} (h:a.toList=[x,y]):a= #[x,y]:=by rw[←Array.toList_inj];simpa using h
theorem B4 (h:Rel C tm st G w) {x:Operand} {args:Array Operand} {xK:Array TypeId} {t:TypeId} {d:D} {n:Nat} (aW:o.op= .call {callee:= .builtin .len,args:=args,argTypes:=xK})
  (ha:args.toList=[x]) (ht:xK.toList=[t]) (hu:(match P.underlying t with |some (.slice _)=>true |_=>false)=true)
  (hx:RepT C st.os G w (ρ x) d) (hn:jE d=some n):co C tm st G w (.int .i64 n) [] ((execOp ρ o).run P w):=by
 cases Hd ha
 cases Hd ht
 obtain⟨a,c,e1,_⟩:=uw hx hn
 cases e:P.underlying t with
 |none=>simp[e]at hu
 |some td=>
  cases td<;>simp[e]at hu
  exact fh h (by simp[execOp,aW,resolve,invoke,builtin,Builtin.len_,run_underlying e,e1,goInt])
theorem lZ {t:TypeId} (h:vU P t=true):P.underlying t=some .string:=by
 unfold vU at h
 split at h
 ·assumption
 ·cases h
theorem jt {t e:TypeId} (h:xV P t e=true):P.underlying t=some (.slice e):=by
 unfold xV at h
 split at h
 ·rename_i e' he;simp at h;subst h;exact he
 ·cases h
theorem Ay (h:Rel C tm st G w) {t:TypeId} {x i:Operand} {d1 d2 v:D} {ws:Wr} (aW:o.op= .index t x i) (ht:vU P t=true)
  (hx:RepT C st.os G w (ρ x) d1) (hi:RepT C st.os G w (ρ i) d2) (he:tf KS [d1,d2]=some (v,ws)):co C tm st G w v ws ((execOp ρ o).run P w):=by
 unfold tf at he
 split at he
 ·rename_i s k n heq
  simp only[List.cons.injEq,and_true]at heq
  obtain⟨rfl,rfl⟩:=heq
  split at he
  ·rename_i hlt
   cases he
   refine fh h ?_
   have hl:n.toNat<s.size:=by omega
   have e1:s[n.toNat]? =some s[n.toNat]:=by simp[hl]
   have e2:s.get! n.toNat=s[n.toNat]:=by
    cases s with
    |mk a=>exact getElem!_pos a n.toNat hl
   simp[execOp,aW,Instr.index,eH hx,bF hi,asIntOf,run_underlying (lZ ht),hlt.1,e1,e2]
  ·cases he
 ·cases he
theorem Jd {α:Type} {a:Array α} {x y z:α} (h:a.toList=[x,y,z]):a= #[x,y,z]:=by rw[←Array.toList_inj];simpa using h
theorem B5 (h:Rel C tm st G w) {x y z:Operand} {args:Array Operand} {xK:Array TypeId} {d1 d2 d3 v:D} {ws:Wr} (mx:Bool)
  (aW:o.op= .call {callee:= .builtin (match mx with |true=> .max |false=> .min),args:=args,argTypes:=xK}) (ha:args.toList=[x,y,z])
  (hx:RepT C st.os G w (ρ x) d1) (hy:RepT C st.os G w (ρ y) d2) (hz:RepT C st.os G w (ρ z) d3) (he:DO KS mx [d1,d2,d3]=some (v,ws)):co C tm st G w v ws ((execOp ρ o).run P w):=by
 unfold DO at he
 split at he
 ·rename_i k a k' b KF c heq
  simp only[List.cons.injEq,and_true]at heq
  obtain⟨rfl,rfl,rfl⟩:=heq
  split at he
  ·rename_i hk
   obtain⟨rfl,rfl⟩:=hk
   cases Jd ha
   cases mx<;>cases he<;>refine fh h ?_
   ·simp[execOp,aW,resolve,invoke,builtin,Builtin.min_,bF hx,bF hy,bF hz,Builtin.min2,IB]
    first |done |rfl |(congr 1)
   ·simp[execOp,aW,resolve,invoke,builtin,Builtin.max_,bF hx,bF hy,bF hz,Builtin.max2,IB]
    first |done |rfl |(congr 1)
  ·cases he
 ·rename_i heq
  simp at heq
 ·cases he
theorem DT (h:Rel C tm st G w) {x y:Operand} {args:Array Operand} {xK:Array TypeId} {d1 d2 v:D} {ws:Wr} (mx:Bool)
  (aW:o.op= .call {callee:= .builtin (match mx with |true=> .max |false=> .min),args:=args,argTypes:=xK}) (ha:args.toList=[x,y])
  (hx:RepT C st.os G w (ρ x) d1) (hy:RepT C st.os G w (ρ y) d2) (he:DO KS mx [d1,d2]=some (v,ws)):co C tm st G w v ws ((execOp ρ o).run P w):=by
 unfold DO at he
 split at he
 ·rename_i heq
  simp at heq
 ·rename_i k a k' b heq
  simp only[List.cons.injEq,and_true]at heq
  obtain⟨rfl,rfl⟩:=heq
  split at he
  ·rename_i hk
   subst hk
   cases FO ha
   cases mx<;>cases he<;>refine fh h ?_
   ·simp[execOp,aW,resolve,invoke,builtin,Builtin.min_,bF hx,bF hy,Builtin.min2]
   ·simp[execOp,aW,resolve,invoke,builtin,Builtin.max_,bF hx,bF hy,Builtin.max2]
  ·cases he
 ·cases he
end
end
section
theorem addr_add (a:Addr) (n:Nat) (h:a.spot=none):a.add n=⟨a.block,a.off+n,none⟩:=by
 unfold Addr.add
 split
 ·rename_i e;subst e;cases a;simp_all
 ·rfl
section
variable {C:Cx} {P:Program} {E:Env} {tm:Array Value} {st:St} {G:Gh} {w:World} {ρ:Operand→Value} {o:Oper} {V:Vw}
theorem ux (h:Rel C tm st G w) (hV:∀ id o,V id=o→o≠ .dead→st.os[id]? =some o) {v:Value} {d:D} {b:Bool} (hv:RepT C st.os G w v d) (hn:vM V d=some b):
  ∃ a n c,v= .slice a n c∧a.isNone=b:=by
 cases d with
 |sl e nb l=>
  simp only[vM,zq5]at hn
  subst hn
  simp only[RepT,RepT1,RepT0]at hv
  cases hv with
  |slnil=>exact⟨none,0,0,rfl,rfl⟩
  |sl e ad c els k cs hk hsp hc=>exact⟨some ad,_,c,rfl,rfl⟩
 |zs e nb=>
  simp only[vM,zq5]at hn
  subst hn
  simp only[RepT,RepT1,RepT0]at hv
  cases hv with
  |zsnil=>exact⟨none,0,0,rfl,rfl⟩
  |zs e ad=>exact⟨some ad,0,0,rfl,rfl⟩
 |own e id n=>
  simp only[vM]at hn
  split at hn
  ·rename_i e' nb l hid
   cases hn
   have hx:=hV id _ hid (by simp)
   have ho:=h.os id _ hx
   simp only[RepT,RepT1,RepT0,oAt_of hx,oSh]at hv
   rw[hv.2.2.2]
   obtain⟨k,xs,_,⟨_,h3⟩,_⟩:=ho
   rcases h3 with⟨_,h0,a,h1,h2,_⟩ |⟨h2,g,cap,cur,t,_,h1,_⟩
   ·exact⟨a,0,0,h1,h2.symm⟩
   ·exact⟨_,_,_,h1,by simp[h2]⟩
  ·rename_i e' nb l hid
   cases hn
   have hx:=hV id _ hid (by simp)
   have ho:=h.os id _ hx
   simp only[RepT,RepT1,RepT0,oAt_of hx,oSh]at hv
   rw[hv.2.2.2]
   simp only[ObjRel]at ho
   generalize (G id).1=u at ho
   cases ho with
   |slnil=>exact⟨none,0,0,rfl,rfl⟩
   |sl e ad c=>exact⟨some ad,_,c,rfl,rfl⟩
  ·cases hn
 |_=>simp[vM]at hn
theorem vZ (d:Nat) {t e:TypeId} (ht:P.underlying t=some (.slice e)) (a:Option Addr) (n c:Nat):
  (Op.equalIn (d+1) t (.slice a n c) (.slice none 0 0)).run P w= .ok a.isNone w:=by
 cases a<;>simp[Op.equalIn,run_underlying ht]
theorem xZ (h:Rel C tm st G w) (hV:∀ id o,V id=o→o≠ .dead→st.os[id]? =some o) {b:BinOp} {t t':TypeId} {x y:Operand} {d v:D} {ws:Wr} (neg:Bool) (aW:o.op= .binOp b t x y t')
  (hb:nD neg b=true) (hT:DQ P t=true) (hy:xU y=true) (hρ:∀ c,y= .const c→ρ y=c)
  (hx:RepT C st.os G w (ρ x) d) (he:oL KS neg V [d]=some (v,ws)):co C tm st G w v ws ((execOp ρ o).run P w):=by
 simp only[oL]at he
 split at he
 ·rename_i c hn
  cases he
  have Ly:ρ y= .slice none 0 0:=by
   unfold xU at hy
   split at hy
   ·exact hρ _ rfl
   ·cases hy
  obtain⟨a,n,cc,ex,ha⟩:=ux h hV hx hn
  have hg:(eqGuard b t x y (.slice a n cc) (.slice none 0 0)).run P w= .ok () w:=dw (by simp) (by simp) w
  unfold DQ at hT
  split at hT
  ·rename_i el e
   have hr:(Op.equal t (.slice a n cc) (.slice none 0 0)).run P w= .ok c w:=by rw[←ha];exact vZ 9999 e a n cc
   refine il h ?_
   cases neg<;>cases b<;>simp[nD]at hb<;>simp[execOp,aW,ex,Ly,hg,binOp,hr,xS]
  ·cases hT
 ·cases he
theorem He {s:TypeId} {f off:Nat} (hs:(match P.underlying s with
   |some (.struct fs)=>match fs[f]? with
    |some fd=>fd.offset==off&&(match P.info? fd.type with |some i=>i.size !=0 |none=>false)
    |none=>false
   |_=>false)=true) (a:Addr) (ha:a.spot=none):(Instr.fieldAt s (.pointer (some a)) f).run P w= .ok (.pointer (some ⟨a.block,a.off+off,none⟩)) w:=by
 split at hs
 ·rename_i fs e
  split at hs
  ·rename_i fd hf
   simp only[zq3,beq_iff_eq]at hs
   obtain⟨rfl,h2⟩:=hs
   split at h2
   ·rename_i i hi
    have: ¬i.size=0:=by simpa using h2
    simp[Instr.fieldAt,run_underlying e,hf,Instr.sureAddr,fieldPlace,run_sizeOf hi,this,addr_add a _ ha]
   ·cases h2
  ·cases hs
 ·cases hs
theorem tt (h:Rel C tm st G w) {x:Operand} {off:Nat} {d v:D} {ws:Wr} (hrun:∀ a:Addr,a.spot=none→ρ x= .pointer (some a)→(execOp ρ o).run P w= .ok (.value (.pointer (some ⟨a.block,a.off+off,none⟩))) w)
  (hx:RepT C st.os G w (ρ x) d∧∀ id,id∈refsD d→isDead (st.os.getD id .gone)=false) (he:qM KS off [d]=some (v,ws)):co C tm st G w v ws ((execOp ρ o).run P w):=by
 cases d with
 |ela b i of=>
  simp only[qM,zq5,Prod.mk.injEq]at he
  obtain⟨rfl,rfl⟩:=he
  obtain⟨⟨a,e1,hsp⟩,hE⟩:=hx.1
  refine .val h (v':= .pointer (some ⟨a.block,a.off+off,none⟩)) ?_ ⟨⟨_,rfl,rfl⟩, ?_⟩ hx.2
  ·exact hrun a hsp e1
  ·rw[e1]at hE
   cases b with
   |sl e nb els=>
    obtain⟨h1,ad,c,k,h2,h3,h4⟩:=hE
    refine⟨h1,ad,c,k,h2,h3, ?_⟩
    simp only[Value.pointer.injEq,zq5]at h4
    subst h4
    simp[Nat.add_assoc]
   |own e id n=>
    simp only[ElaAt]at hE⊢
    split
    ·rename_i e' m ho
     simp only[ho]at hE
     obtain⟨h1,h2,h3,ad,cap,k,h4,h5,h6⟩:=hE
     refine⟨h1,h2,h3,ad,cap,k,h4,h5, ?_⟩
     simp only[Value.pointer.injEq,zq5]at h6
     subst h6
     simp[Nat.add_assoc]
    ·trivial
   |ownv e id LA n=>
    simp only[ElaAt]at hE⊢
    split
    ·rename_i e' m ho
     simp only[ho]at hE
     obtain⟨h1,h2,h3,ad,cap,k,h4,h5,h6⟩:=hE
     refine⟨h1,h2,h3,ad,cap,k,h4,h5, ?_⟩
     simp only[Value.pointer.injEq,zq5]at h6
     subst h6
     simp[Nat.add_assoc]
    ·trivial
   |_=>exact hE.elim
 |ptr id of=>
  simp only[qM,zq5,Prod.mk.injEq]at he
  obtain⟨rfl,rfl⟩:=he
  obtain⟨⟨a,e1,hsp⟩,hE⟩:=hx.1
  refine .val h (v':= .pointer (some ⟨a.block,a.off+off,none⟩)) ?_ ⟨⟨_,rfl,rfl⟩, ?_⟩ hx.2
  ·exact hrun a hsp e1
  ·split
   ·rename_i n ho
    simp only[ho]at hE
    obtain⟨g,h1,h2⟩:=hE
    rw[e1]at h2
    simp only[Value.pointer.injEq,zq5]at h2
    subst h2
    exact⟨g,h1,rfl⟩
   ·trivial
 |rp cs of=>
  simp only[qM,zq5,Prod.mk.injEq]at he
  obtain⟨rfl,rfl⟩:=he
  have hr:=hx.1
  simp only[RepT,RepT1,RepT0]at hr
  generalize e1:ρ x=u at hr
  cases hr with
  |rp b cs of vals hp hok hcell hrep=>
   refine .val h (v':= .pointer (some ⟨b,of+off,none⟩)) ?_ (.rp b cs (of+off) vals hp hok hcell hrep) (fun id hid=>by simp[refsD,refs1,refs0,refsb]at hid)
   exact hrun ⟨b,of,none⟩ rfl e1
 |_=>simp[qM]at he
theorem B6 (h:Rel C tm st G w) {s:TypeId} {x:Operand} {f off:Nat} {d v:D} {ws:Wr} (aW:o.op= .fieldAddr s x f)
  (hs:(match P.underlying s with
   |some (.struct fs)=>match fs[f]? with
    |some fd=>fd.offset==off&&(match P.info? fd.type with |some i=>i.size !=0 |none=>false)
    |none=>false
   |_=>false)=true)
  (hx:RepT C st.os G w (ρ x) d∧∀ id,id∈refsD d→isDead (st.os.getD id .gone)=false) (he:qM KS off [d]=some (v,ws)):co C tm st G w v ws ((execOp ρ o).run P w):=
 tt h (fun a hsp e1=>by simp only[execOp,aW,e1,Sem.run_bind,He hs a hsp,Result.andThen_ok,Sem.run_pure]) hx he
theorem Az (h:Rel C tm st G w) {t:TypeId} {x:Operand} {ik:IntKind} {i:Int} {off:Nat} {d v:D} {ws:Wr} (aW:o.op= .indexAddr t x (.const (.int ik i))) (hρ:∀ c,ρ (.const c)=c)
  (hs:(match P.underlying t with
   |some (.array n e)=>decide (0≤i)&&decide (i<(n:Int))&&(match P.info? e with |some k9=>k9.size !=0&&i.toNat*k9.size==off |none=>false)
   |_=>false)=true)
  (hx:RepT C st.os G w (ρ x) d∧∀ id,id∈refsD d→isDead (st.os.getD id .gone)=false) (he:qM KS off [d]=some (v,ws)):co C tm st G w v ws ((execOp ρ o).run P w):=by
 split at hs
 ·rename_i n e hu
  simp only[zq3,decide_eq_true_eq]at hs
  obtain⟨⟨h1,h2⟩,h3⟩:=hs
  split at h3
  ·rename_i k9 hi
   simp only[zq3,bne_iff_ne,ne_eq,beq_iff_eq]at h3
   obtain⟨h3,rfl⟩:=h3
   exact tt h (fun a hsp e1=>by simp[execOp,aW,e1,Instr.indexAt,Instr.sureAddr,hρ,asIntOf,run_underlying hu,h1,h2,run_sizeOf hi,addr_add a _ hsp]) hx he
  ·cases h3
 ·cases hs
theorem AA (h:Rel C tm st G w) (hT:vW C P) {t e:TypeId} {x i:Operand} {d1 d2 v:D} {ws:Wr} (aW:o.op= .indexAddr t x i) (ht:xV P t e=true) (pF:(C.ty e).isSome=true)
  (hx:RepT C st.os G w (ρ x) d1∧∀ id,id∈refsD d1→isDead (st.os.getD id .gone)=false) (hi:RepT C st.os G w (ρ i) d2) (he:th KS e [d1,d2]=some (v,ws)):co C tm st G w v ws ((execOp ρ o).run P w):=by
 unfold th at he
 split at he
 ·rename_i y k n heq
  simp only[List.cons.injEq,and_true]at heq
  obtain⟨rfl,rfl⟩:=heq
  split at he
  ·rename_i e' m mu hlen
   split at he
   ·rename_i hee
    subst hee
    split at he
    ·rename_i hlt
     cases he
     obtain⟨a,c,ex,M3,LC,hsp⟩:=uw hx.1 hlen
     cases ek:C.ty e with
     |none=>simp[ek]at pF
     |some el=>
      obtain⟨k9,iV,hsz,_,_⟩:=dv (hT e el ek).1
      cases a with
      |none=>have:=LC rfl;omega
      |some ad=>
       have Hf:=hsp ad rfl (by omega)
       refine .val h (v':= .pointer (some ⟨ad.block,ad.off+n.toNat*el.ks.length,none⟩)) ?_ ?_ ?_
       ·simp[execOp,aW,Instr.indexAt,ex,bF hi,asIntOf,run_underlying (jt ht),hlt.1,hlt.2,run_sizeOf iV,hsz,addr_add ad _ Hf]
       ·refine⟨⟨_,rfl,rfl⟩, ?_⟩
        have GM:=hx.1
        rw[ex]at GM
        have hn:n.toNat<m:=by omega
        cases d1 with
        |sl e1 nb els=>
         simp only[vQ,zq5]at mu
         subst mu
         simp only[jE,zq5]at hlen
         subst hlen
         exact⟨hn,ad,c,el,ek,GM,rfl⟩
        |zs e1 nb=>
         simp only[jE,zq5]at hlen
         omega
        |own e1 id m1=>
         simp only[vQ,zq5]at mu
         subst mu
         simp only[jE,zq5]at hlen
         subst hlen
         simp only[ElaAt]
         split
         ·rename_i e2 m2 ho
          simp only[RepT,RepT1,RepT0,ho]at GM
          obtain⟨_,h1,h2,h3⟩:=GM
          subst h1 h2
          exact⟨rfl,rfl,hn,ad,c,el,ek,h3.symm,rfl⟩
         ·trivial
        |ownv e1 id o1 m1=>
         simp only[vQ,zq5]at mu
         subst mu
         simp only[jE,zq5]at hlen
         subst hlen
         simp only[ElaAt]
         split
         ·rename_i e2 m2 ho
          simp only[RepT,RepT1,RepT0,ho]at GM
          obtain⟨_,h1,h2,a0,c0,k0,h3,h4,a',h5,h6,h7,h8⟩:=GM
          subst h1
          rw[ek]at h3
          cases h3
          simp only[Value.slice.injEq,true_and]at h5
          obtain⟨h5,h9⟩:=h5
          subst h5
          have h10:=h8 (by omega)
          cases a0 with
          |none=>simp at h10
          |some LD=>
           simp only[Option.map_some,zq5]at h10
           subst h10
           refine⟨rfl,h2,hn,LD,c0,el,ek,h4, ?_⟩
           simp[Nat.add_mul,Nat.add_assoc]
         ·trivial
        |_=>simp[vQ]at mu
       ·intro id hid
        have hr:refsD (.ela d1 n.toNat 0)=refsD d1:=by
         cases d1<;>first |rfl |(simp[vQ]at mu;done)
        exact hx.2 id (hr▸hid)
    ·cases he
   ·cases he
  ·cases he
 ·cases he
end
end
section
theorem eta_fits {s:Sk} {d:D} (h:fits s d=true):eta s d=d:=by
 cases s<;>cases d<;>simp_all [fits,eta,D.i,D.b,D.s,D.nb,D.els,D.fi,D.caps]
theorem fitsL_spec:∀ {ks:List Sk} {ds:List D},fitsL ks ds=true→ds.length=ks.length∧∀ j (k:Sk),ks[j]? =some k→fits k (ds.getD j .undef)=true
 |[],[],_=>⟨rfl,fun j k hj=>by simp at hj⟩
 |k::ks,d::ds,h=>by
  simp only[fitsL,zq3]at h
  obtain⟨h1,h2⟩:=fitsL_spec h.2
  refine⟨by simp[h1],fun j k' hj=> ?_⟩
  cases j with
  |zero=>simp at hj;subst hj;simpa using h.1
  |succ j=>simpa using h2 j k' (by simpa using hj)
 |[],_::_,h=>by simp[fitsL]at h
 |_::_,[],h=>by simp[fitsL]at h
theorem fits_pure {s:Sk} {d:D} (h:fits s d=true):pure0 d=true:=by
 cases s<;>cases d<;>simp_all [fits,pure0]
theorem iA {ks:List Sk} {d:D} (h:fitsL ks [d]=true):ks.length=1∧∃ s,ks[0]? =some s∧fits s d=true:=by
 obtain⟨h1,h2⟩:=fitsL_spec h
 cases ks with
 |nil=>simp at h1
 |cons s r=>exact⟨h1.symm,s,rfl,by simpa using h2 0 s rfl⟩
theorem Vk.cg {k:Vk} {d:D} (h:k.fits d=true):∀ (j:Nat) (s:Sk),k.ks[j]? =some s→GD.fits s (d.cell j)=true:=by
 intro j s hs
 cases hk:k.agg with
 |true=>
  cases d with
  |agg ds=>
   simp only[Vk.fits,hk]at h
   exact (fitsL_spec h).2 j s hs
  |_=>simp[Vk.fits,hk]at h
 |false=>
  simp only[Vk.fits,hk]at h
  obtain⟨h1,s',h2,h3⟩:=iA h
  have:j=0:=by
   have:=(zq6.1 hs).1
   omega
  subst this
  rw[h2]at hs
  cases hs
  cases d<;>first |exact h3 |(cases s<;>simp[GD.fits]at h3)
theorem Vk.cB {k:Vk} {d:D} (h:k.fits d=true):(k.agg=true∧∃ ds,d= .agg ds∧ds.length=k.ks.length)∨(k.agg=false∧k.ks.length=1∧pure0 d=true∧∀ l,d≠ .agg l):=by
 cases hk:k.agg with
 |true=>
  cases d with
  |agg ds=>
   simp only[Vk.fits,hk]at h
   exact .inl ⟨rfl,ds,rfl,(fitsL_spec h).1⟩
  |_=>simp[Vk.fits,hk]at h
 |false=>
  simp only[Vk.fits,hk]at h
  obtain⟨h1,s',h2,h3⟩:=iA h
  refine .inr ⟨rfl,h1,fits_pure h3, ?_⟩
  rintro l rfl
  cases s'<;>simp[GD.fits]at h3
theorem cu:∀ (ks:List Sk) (d:D) (off:Nat),(ck ks d off).length=ks.length
 |[],_,_=>rfl
 |k::ks,d,off=>by simp[ck,cu ks d (off+1)]
theorem fj:∀ (ks:List Sk) (d:D) (off j:Nat),j<ks.length→(∀ i (s:Sk),ks[i]? =some s→fits s (d.cell (off+i))=true)→(ck ks d off).getD j .undef=d.cell (off+j)
 |[],_,_,_,h,_=>by simp at h
 |k::ks,d,off,0,h,hf=>by
  simp only[ck,List.getD_cons_zero,Nat.add_zero]
  exact eta_fits (hf 0 k rfl)
 |k::ks,d,off,j+1,h,hf=>by
  simp only[ck,List.getD_cons_succ]
  rw[fj ks d (off+1) j (by simpa using h) (fun i s hs=>by have:=hf (i+1) s (by simpa using hs);rwa [show off+(i+1)=off+1+i by omega]at this)]
  congr 1;omega
section
variable {C:Cx} {P:Program} {E:Env} {tm:Array Value} {st:St} {G:Gh} {w:World} {ρ:Operand→Value} {o:Oper} {V:Vw}
theorem run_loadVar {t:TypeId} {k:Vk} (hs:szOk P t k=true) (w:World) (a:Addr) (ha:a.spot=none) (f:Nat→Value)
  (hf:∀ j,j<k.ks.length→w.cell? ⟨a.block,a.off+j,none⟩=some (f j)):
  (loadVar t a).run P w= .ok (match k.agg with |true=> .agg ((List.range k.ks.length).map f).toArray |false=>f 0) w:=by
 obtain⟨i,hi,hsz,hag,h1⟩:=dv hs
 unfold loadVar
 rw[Sem.run_bind,tr hag]
 cases e:k.agg with
 |true=>
  have:=run_loadCells (P:=P) w a i.size f (fun j hj=>by rw[addr_add a j ha];exact hf j (by omega))
  rw[hsz]at this
  simp[run_sizeOf hi,hsz,this]
 |false=>
  have:=hf 0 (by have:=h1 e;omega)
  have ea:(⟨a.block,a.off+0,none⟩:Addr)=a:=by cases a;simp_all
  rw[ea]at this
  simp[this]
theorem AB (h:Rel C tm st G w) (hV:∀ id o,V id=o→o≠ .dead→st.os[id]? =some o) {v:Value} {i off:Nat} {b:D} {e:TypeId} {l:List D}
  (hE:ElaAt C st.os G w v i off b) (hr:jD V b=some (e,l)):∃ (el:Vk) (blk base:Nat) (vals:Nat→Value),C.ty e=some el∧v= .pointer (some ⟨blk,base+off,none⟩)∧i<l.length∧el.fits (l.getD i .undef)=true∧
   ∀ j,j<el.ks.length→w.cell? ⟨blk,base+j,none⟩=some (vals j)∧RepV C.ty w (okB C st.os G w) (vals j) ((l.getD i .undef).cell j):=by
 have x_:∀ {ad:Addr} {c n:Nat} {nb:Bool} {l:List D} {i:Nat} {k:Vk},C.ty e=some k→RepV C.ty w (okB C st.os G w) (.slice (some ad) n c) (.sl e nb l)→i<l.length→
   ∃ vals:Nat→Value,k.fits (l.getD i .undef)=true∧∀ j,j<k.ks.length→w.cell? ⟨ad.block,ad.off+i*k.ks.length+j,none⟩=some (vals j)∧RepV C.ty w (okB C st.os G w) (vals j) ((l.getD i .undef).cell j):=by
  intro ad c n nb l i k hk hR hi
  cases hR with
  |sl e ad c els k' cs hk' hsp hc hf hok hcell hrep=>
   rw[hk]at hk'
   cases hk'
   refine⟨fun j=>cs i j,hf _ (mem_getD hi),fun j hj=>⟨?_,hrep i j hi hj⟩⟩
   rw[←hcell i j hi hj,Nat.add_assoc]
 have v_:∀ {id:Nat} {nb:Bool} {l:List D} {i:Nat} {k:Vk} {ad:Addr} {cap:Nat},st.os[id]? =some (.arr e nb l)→C.ty e=some k→i<l.length→(G id).1= .slice (some ad) l.length cap→
   ∃ vals:Nat→Value,k.fits (l.getD i .undef)=true∧∀ j,j<k.ks.length→w.cell? ⟨ad.block,ad.off+i*k.ks.length+j,none⟩=some (vals j)∧RepV C.ty w (okB C st.os G w) (vals j) ((l.getD i .undef).cell j):=by
  intro id nb l i k ad cap hx hk hi hg
  obtain⟨k',xs,hk',⟨h2,h3⟩,hf,hrep⟩:=h.os id _ hx
  rw[hk]at hk'
  cases hk'
  rcases h3 with⟨_,h0,_⟩ |⟨_,g,Je,cur,t,_,h4,h5,h6,h7,h8,h9⟩
  ·omega
  ·rw[hg]at h4
   simp only[Value.slice.injEq,zq5]at h4
   obtain⟨rfl,_,rfl⟩:=h4
   refine⟨fun j=>xs.getD (i*k.ks.length+j) undef,hf _ (mem_getD hi),fun j hj=>⟨?_,hrep i j hi hj⟩⟩
   have hlt:i*k.ks.length+j<l.length*k.ks.length:=by
    have:(i+1)*k.ks.length≤l.length*k.ks.length:=Nat.mul_le_mul_right _ hi
    rw[Nat.add_mul]at this
    omega
   have gL:i*k.ks.length+j<cur.size:=by
    have:l.length*k.ks.length≤cap*k.ks.length:=Nat.mul_le_mul_right _ h6
    omega
   rw[cell_of_row w g _ cur t (0,0) h5,h9]
   simp[zq1,List.getElem?_take,hlt,gL]
 cases b with
 |sl e1 nb els=>
  simp only[jD,zq5,Prod.mk.injEq]at hr
  obtain⟨rfl,rfl⟩:=hr
  obtain⟨h1,ad,c,k,h2,h3,h4⟩:=hE
  obtain⟨vals,h5,h6⟩:=x_ h2 h3 h1
  exact⟨k,ad.block,ad.off+i*k.ks.length,vals,h2,by rw[h4,Nat.add_assoc],h1,h5,h6⟩
 |own e1 id n=>
  simp only[jD]at hr
  split at hr
  ·rename_i e2 nb els hid
   cases hr
   have hx:=hV id _ hid (by simp)
   simp only[ElaAt,oAt_of hx,oSh]at hE
   obtain⟨rfl,rfl,h1,ad,cap,k,h2,h3,h4⟩:=hE
   obtain⟨vals,h5,h6⟩:=v_ hx h2 h1 h3
   exact⟨k,ad.block,ad.off+i*k.ks.length,vals,h2,by rw[h4,Nat.add_assoc],h1,h5,h6⟩
  ·rename_i e2 nb els hid
   cases hr
   have hx:=hV id _ hid (by simp)
   simp only[ElaAt,oAt_of hx,oSh]at hE
   obtain⟨rfl,rfl,h1,ad,cap,k,h2,h3,h4⟩:=hE
   have ho:=h.os id _ hx
   simp only[ObjRel]at ho
   rw[h3]at ho
   obtain⟨vals,h5,h6⟩:=x_ h2 ho h1
   exact⟨k,ad.block,ad.off+i*k.ks.length,vals,h2,by rw[h4,Nat.add_assoc],h1,h5,h6⟩
  ·cases hr
 |ownv e1 id o1 n=>
  have sub:∀ {l:List D},o1+n≤l.length→i<n→((l.drop o1).take n).getD i .undef=l.getD (o1+i) .undef∧i<((l.drop o1).take n).length:=by
   intro l h1 h2
   refine⟨by simp[zq1,List.getElem?_take,h2],by simp;omega⟩
  simp only[jD]at hr
  split at hr
  ·rename_i e2 nb els hid
   cases hr
   have hx:=hV id _ hid (by simp)
   simp only[ElaAt,oAt_of hx,oSh]at hE
   obtain⟨rfl,h0,h1,ad,cap,k,h2,h3,h4⟩:=hE
   obtain⟨vals,h5,h6⟩:=v_ (i:=o1+i) hx h2 (by omega) h3
   obtain⟨s1,s2⟩:=sub (l:=els) h0 h1
   rw[←s1]at h5 h6
   exact⟨k,ad.block,ad.off+(o1+i)*k.ks.length,vals,h2,by rw[h4,Nat.add_assoc],s2,h5,h6⟩
  ·rename_i e2 nb els hid
   cases hr
   have hx:=hV id _ hid (by simp)
   simp only[ElaAt,oAt_of hx,oSh]at hE
   obtain⟨rfl,h0,h1,ad,cap,k,h2,h3,h4⟩:=hE
   have ho:=h.os id _ hx
   simp only[ObjRel]at ho
   rw[h3]at ho
   obtain⟨vals,h5,h6⟩:=x_ (i:=o1+i) h2 ho (by omega)
   obtain⟨s1,s2⟩:=sub (l:=els) h0 h1
   rw[←s1]at h5 h6
   exact⟨k,ad.block,ad.off+(o1+i)*k.ks.length,vals,h2,by rw[h4,Nat.add_assoc],s2,h5,h6⟩
  ·cases hr
 |_=>exact hE.elim
theorem oU {E:Env} (hE:E.ty=C.ty) {e:TypeId} {off:Nat} {k el:Vk} (h:oK E e off k=true) (he:C.ty e=some el):
  off+k.ks.length≤el.ks.length∧(∀ j (s:Sk),k.ks[j]? =some s→el.ks[off+j]? =some s)∧(k.agg=false→k.ks.length=1):=by
 unfold oK at h
 rw[hE,he]at h
 simp only[zq3,beq_iff_eq,Nat.ble_eq,Bool.or_eq_true]at h
 obtain⟨⟨h1,h2⟩,h3⟩:=h
 refine⟨h1,fun j s hs=> ?_,fun hk=> ?_⟩
 ·have hj:=(zq6.1 hs).1
  rw[←h2]at hs
  simp only[List.getElem?_take,hj,if_true,List.getElem?_drop]at hs
  exact hs
 ·rcases h3 with h3 |h3
  ·rw[hk]at h3;cases h3
  ·exact h3
theorem m7 (h:Rel C tm st G w) {t:TypeId} {x:Operand} {k:Vk} {cs:List D} {off b:Nat} {v:D} {ws:Wr} {vals:Nat→Value} (aW:o.op= .load t x) (hs:szOk P t k=true)
  (hx:ρ x= .pointer (some ⟨b,off,none⟩)) (hcell:∀ j,j<cs.length→w.cell? ⟨b,j,none⟩=some (vals j))
  (hrep:∀ j,j<cs.length→RepT0 C st.os G w (vals j) (cs.getD j .undef)) (hd:∀ id,id∈refsL cs→isDead (st.os.getD id .gone)=false)
  (he:iw KS k off cs=some (v,ws)):co C tm st G w v ws ((execOp ρ o).run P w):=by
 unfold iw at he
 split at he
 ·rename_i hle
  have LG:off+k.ks.length≤cs.length:=by simpa using hle
  have hl:=run_loadVar hs w ⟨b,off,none⟩ rfl (fun j=>vals (off+j)) (fun j hj=>hcell (off+j) (by omega))
  have hrun:∀ u,(match k.agg with |true=>Value.agg ((List.range k.ks.length).map fun j=>vals (off+j)).toArray |false=>vals (off+0))=u→(execOp ρ o).run P w= .ok (.value u) w:=by
   rintro u rfl
   simp only[execOp,aW,hx,Instr.loadAt,Instr.sureAddr,Sem.run_bind,Sem.run_pure,Result.andThen_ok,hl]
  obtain⟨_,_,_,_,h1⟩:=dv hs
  cases hk:k.agg with
  |true=>
   simp only[hk]at he hrun
   cases he
   refine .val h (hrun _ rfl) ⟨_,rfl,by simp;omega,fun j hj=> ?_⟩ (fun id hid=>hd id ?_)
   ·have hj':j<k.ks.length:=by simp at hj;omega
    have:=hrep (off+j) (by omega)
    simpa[zq1,List.getElem?_take,hj',zq2]using this
   ·simp only[refsD,refs1,refsL,List.mem_flatMap]at hid⊢
    obtain⟨d,hd,hi⟩:=hid
    exact⟨d,List.mem_of_mem_drop (List.mem_of_mem_take hd),hi⟩
  |false=>
   simp only[hk]at he hrun
   cases he
   have hlt:off<cs.length:=by have:=h1 hk;omega
   have hr:=hrep off hlt
   refine .val h (hrun _ rfl) hr.up (fun id hid=>hd id ?_)
   refine List.mem_flatMap.2 ⟨_,mem_getD hlt, ?_⟩
   generalize cs.getD off .undef=d at hr hid
   cases d<;>first |exact hid |exact hr.elim
 ·cases he
theorem m8 {s:Sk} {lo n i:Nat} {cs:List D} (h:(Nat.ble (lo+n) cs.length&&((cs.drop lo).take n).all (fits s))=true) (hi:i<n):lo+i<cs.length∧fits s (cs.getD (lo+i) .undef)=true:=by
 simp only[zq3,Nat.ble_eq]at h
 refine⟨by omega, ?_⟩
 have hlt:i<((cs.drop lo).take n).length:=by simp;omega
 have:=List.all_eq_true.1 h.2 _ (List.getElem_mem hlt)
 have e:cs.getD (lo+i) .undef=((cs.drop lo).take n)[i]:=by
  have hl:lo+i<cs.length:=by omega
  simp[zq1,hl]
 rw[e]
 exact this
theorem wa {k:Vk} {lo n i:Nat} {cs:List D} {v:D} {ws:Wr} (hi:i<n) (he:m0 KS k lo n i cs=some (v,ws)):iw KS k (lo+i) cs=some (v,ws):=by
 unfold m0 at he
 split at he
 ·rename_i s h1 h2
  split at he
  ·rename_i hc
   obtain⟨w1,w2⟩:=m8 hc hi
   rw[eta_fits w2]at he
   unfold iw
   rw[h1,h2]
   have:Nat.ble (lo+i+[s].length) cs.length=true:=by simp;omega
   rw[this]
   exact he
  ·cases he
 ·cases he
theorem B7 {e:TypeId} {lo n j:Nat} {k:Vk} (h:ny E e lo n k=true) (hj:j<n):oK E e (lo+j) k=true:=by
 unfold ny at h
 unfold oK
 cases hel:E.ty e with
 |none=>rw[hel]at h;cases h
 |some el=>
  rw[hel]at h
  simp only at h⊢
  simp only[zq3,Nat.ble_eq,List.all_eq_true,beq_iff_eq,Bool.not_eq_true']at h
  obtain⟨⟨h1,h2⟩,h3⟩:=h
  have hlt:lo+j<el.ks.length:=by omega
  have hm:el.ks[lo+j]∈(el.ks.drop lo).take n:=by
   have hl:j<((el.ks.drop lo).take n).length:=by simp;omega
   have:=List.getElem_mem hl
   simpa using this
  have hk:=h2 _ hm
  have hd:(el.ks.drop (lo+j)).take 1=[el.ks[lo+j]]:=by
   rw[List.drop_eq_getElem_cons hlt,List.take_succ_cons,List.take_zero]
  rw[hk,h3]
  simp only[List.length_cons,List.length_nil,hd,BEq.rfl,Bool.and_true,Nat.ble_eq,Bool.true_and,Bool.false_or,Nat.zero_add]
  exact hlt
theorem zz {os:List Obj} {v:Value} {id lo n i:Nat} (h:RepT C os G w v (.elp id lo n i)):i<n∧RepT C os G w v (.ptr id (lo+i)):=h
theorem AC (h:Rel C tm st G w) (hE:E.ty=C.ty) (hV:∀ id o,V id=o→o≠ .dead→st.os[id]? =some o) {t:TypeId} {x:Operand} {k:Vk} {d v:D} {ws:Wr} (aW:o.op= .load t x) (hs:szOk P t k=true)
  (hx:RepT C st.os G w (ρ x) d) (he:gW KS E k V [d]=some (v,ws)):co C tm st G w v ws ((execOp ρ o).run P w):=by
 have hptr:∀ {id off:Nat},RepT C st.os G w (ρ x) (.ptr id off)→gW KS E k V [.ptr id off]=some (v,ws)→co C tm st G w v ws ((execOp ρ o).run P w):=by
  intro id off hx he
  simp only[gW]at he
  split at he
  ·rename_i cs hid
   have oI:=hV id _ hid (by simp)
   have ho:=h.os id _ oI
   obtain⟨g,cells,t',h1,h2,h3,h4⟩:=ho
   simp only[RepT,RepT1,RepT0,oAt_of oI,oSh]at hx
   obtain⟨_,g',h5,h6⟩:=hx
   rw[h1]at h5
   simp only[Value.pointer.injEq,zq5,Addr.mk.injEq,and_true]at h5
   subst h5
   refine m7 h aW hs h6 (vals:=fun j=>cells.getD j undef) (fun j hj=> ?_) (fun j hj=>(h4 j hj).1) (fun i hi=>h.rO id _ oI i hi) he
   rw[cell_of_row w g j cells t' (0,0) h2]
   have:j<cells.size:=by omega
   simp[zq2,this]
  ·rename_i cs hid
   have oI:=hV id _ hid (by simp)
   have ho:=h.os id _ oI
   simp only[ObjRel]at ho
   simp only[RepT,RepT1,RepT0,oAt_of oI,oSh]at hx
   obtain⟨_,g',h5,h6⟩:=hx
   rw[h5]at ho
   cases ho with
   |rp b cs qR vals hp hok hcell hrep=>
    refine m7 h aW hs h6 hcell (fun j hj=>(hrep j hj).t0 (hp _ (mem_getD hj))) (fun i hi=> ?_) he
    obtain⟨d,hd,hi⟩:=List.mem_flatMap.1 hi
    rw[(ij (hp d hd)).1]at hi
    cases hi
  ·cases he
 have Hg:∀ {b:D} {i off:Nat},RepT C st.os G w (ρ x) (.ela b i off)→gW KS E k V [.ela b i off]=some (v,ws)→co C tm st G w v ws ((execOp ρ o).run P w):=by
  intro b i off hx he
  simp only[gW]at he
  split at he
  ·rename_i e l hr
   split at he
   ·rename_i hty
    cases he
    obtain⟨el,blk,base,vals,h1,h2,h3,h4,h5⟩:=AB h hV hx.2 hr
    obtain⟨h6,h7,h8⟩:=oU hE hty h1
    have hfit:∀ j (s:Sk),k.ks[j]? =some s→fits s ((l.getD i .undef).cell (off+j))=true:=fun j s hj=>h4 |>Vk.cg |>(· (off+j) s (h7 j s hj))
    have hl:=run_loadVar hs w ⟨blk,base+off,none⟩ rfl (fun j=>vals (off+j)) (fun j hj=>by have:=(h5 (off+j) (by omega)).1;simpa[Nat.add_assoc]using this)
    have hrun:∀ u,(match k.agg with |true=>Value.agg ((List.range k.ks.length).map fun j=>vals (off+j)).toArray |false=>vals (off+0))=u→(execOp ρ o).run P w= .ok (.value u) w:=by
     rintro u rfl
     simp only[execOp,aW,h2,Instr.loadAt,Instr.sureAddr,Sem.run_bind,Sem.run_pure,Result.andThen_ok,hl]
    have hcell:∀ j,j<k.ks.length→pure0 ((l.getD i .undef).cell (off+j))=true:=fun j hj=>fits_pure (hfit j k.ks[j] (zq4 hj))
    unfold etaV
    cases hk:k.agg with
    |true=>
     simp only[hk]at hrun
     refine .val h (hrun _ rfl) ⟨_,rfl,by simp[cu],fun j hj=> ?_⟩ (fun id hid=> ?_)
     ·rw[cu]at hj
      rw[fj _ _ _ _ hj hfit]
      have:=(h5 (off+j) (by omega)).2
      have e1:((List.range k.ks.length).map fun j=>vals (off+j)).toArray.getD j undef=vals (off+j):=by simp[zq2,hj]
      rw[e1]
      exact this.t0 (hcell j hj)
     ·simp only[refsD,refs1,refsL,List.mem_flatMap]at hid
      obtain⟨d,hd,hi⟩:=hid
      obtain⟨j,hj,rfl⟩:=List.getElem_of_mem hd
      rw[cu]at hj
      have e1:=fj _ (l.getD i .undef) off j hj hfit
      rw[zq1,zq4 (by rw[cu];exact hj)]at e1
      simp only[Option.getD_some]at e1
      rw[e1,(ij (hcell j hj)).1]at hi
      cases hi
    |false=>
     simp only[hk]at hrun
     have h9:=h8 hk
     obtain⟨s,hs1⟩:∃ s,k.ks=[s]:=by
      cases e1:k.ks with
      |nil=>simp[e1]at h9
      |cons s r=>simp[e1]at h9;exact⟨s,by simp[h9]⟩
     simp only[hs1]
     have hf0:=hfit 0 s (by simp[hs1])
     rw[Nat.add_zero]at hf0
     rw[eta_fits hf0]
     have:=(h5 off (by rw[hs1]at h6;simp at h6;omega)).2
     have hp:=fits_pure hf0
     refine .val h (hrun _ rfl) (this.t0 hp).up (fun id hid=> ?_)
     rw[(ij hp).2]at hid
     cases hid
   ·cases he
  ·cases he
 cases d with
 |elp id lo n i=>
  obtain⟨h1,h2⟩:=zz hx
  refine hptr h2 ?_
  simp only[gW]at he⊢
  split at he
  ·exact wa h1 he
  ·exact wa h1 he
  ·cases he
 |ela b i off=>exact Hg hx he
 |elaP b i lo n j=>
  simp only[gW]at he
  split at he
  ·rename_i e l hr
   split at he
   ·rename_i hty
    exact Hg hx.2 (by simp only[gW,hr,B7 hty hx.1];exact he)
   ·cases he
  ·cases he
 |ptr id off=>exact hptr hx he
 |rp cs off=>
  simp only[gW]at he
  simp only[RepT,RepT1,RepT0]at hx
  generalize e1:ρ x=u at hx
  cases hx with
  |rp b cs off vals hp hok hcell hrep=>
   refine m7 h aW hs e1 hcell (fun j hj=>(hrep j hj).t0 (hp _ (mem_getD hj))) (fun i hi=> ?_) he
   obtain⟨d,hd,hi⟩:=List.mem_flatMap.1 hi
   rw[(ij (hp d hd)).1]at hi
   cases hi
 |_=>simp[gW]at he
end
end
section
theorem foldl_none {α β:Type} (f:Option β→α→Option β) (hf:∀ a,f none a=none):∀ l:List α,l.foldl f none=none
 |[]=>rfl
 |a::l=>by rw[List.foldl_cons,hf];exact foldl_none f hf l
theorem qS {x y:D} {xs ys:List D} {b:Bool} (h:oH (x::xs) (y::ys)=some b):∃ p q,vO x y=some p∧oH xs ys=some q∧b=(p&&q):=by
 simp only[oH]at h
 split at h
 ·rename_i p hp
  split at h
  ·cases h
   exact⟨b,true,hp,rfl,by simp⟩
  ·split at h
   ·rename_i q hq
    cases h
    exact⟨p,q,hp,hq,rfl⟩
   ·cases h
 ·cases h
theorem B8 {x y:D} {xs ys:List D} {p q:Bool} (h:vO x y=some p) (h':oH xs ys=some q):oH (x::xs) (y::ys)=some (p&&q):=by
 simp only[oH,h]
 split
 ·simp[oH]at h'
  simp[←h']
 ·simp[h']
theorem oV:∀ (n:Nat) (xs ys:List D) (b:Bool),n≤xs.length→xs.length=ys.length→oH xs ys=some b→
  ∃ b1 b2,oH (xs.take n) (ys.take n)=some b1∧oH (xs.drop n) (ys.drop n)=some b2∧b=(b1&&b2)
 |0,xs,ys,b,_,_,h=>⟨true,b,by simp[oH],by simpa using h,by simp⟩
 |n+1,x::xs,y::ys,b,hn,hl,h=>by
  obtain⟨p,q,hp,hq,rfl⟩:=qS h
  obtain⟨b1,b2,h1,h2,h3⟩:=oV n xs ys q (by simpa using hn) (by simpa using hl) hq
  exact⟨p&&b1,b2,by rw[List.take_succ_cons,List.take_succ_cons];exact B8 hp h1,by simpa using h2,by rw[h3,Bool.and_assoc]⟩
 |n+1,[],_,_,hn,_,_=>by simp at hn
 |n+1,_::_,[],_,_,hl,_=>by simp at hl
theorem dM:∀ (FP GN:List Sk) (ds:List D),fitsL (FP++GN) ds=true→fitsL FP (ds.take FP.length)=true∧fitsL GN (ds.drop FP.length)=true
 |[],GN,ds,h=>⟨rfl,by simpa using h⟩
 |k::FP,GN,d::ds,h=>by
  simp only[List.cons_append,fitsL,zq3]at h
  obtain⟨h1,h2⟩:=dM FP GN ds h.2
  exact⟨by simp[fitsL,h.1,h1],by simpa using h2⟩
 |k::FP,GN,[],h=>by simp[fitsL]at h
section
variable {C:Cx} {P:Program} {E:Env} {tm:Array Value} {st:St} {G:Gh} {w:World} {ρ:Operand→Value} {o:Oper} {V:Vw}
def cK (P:Program) (t:TypeId) (cs:Array Value) (off n:Nat):Value:=
 match isAggT P t with
 |some true=> .agg (cs.extract off (off+n))
 |_=>cs.getD off undef
theorem fP {t:TypeId} {i:TypeInfo} (hi:P.info? t=some i) {b:Bool} (ha:isAggT P t=some b) (w:World) (cs:Array Value) (off:Nat) (hl:off+i.size≤cs.size) (h1:b=false→i.size=1):
  (part t cs off).run P w= .ok (cK P t cs off i.size) w:=by
 unfold part cK
 rw[Sem.run_bind,tr ha,ha]
 cases b with
 |true=>simp[run_sizeOf hi]
 |false=>
  have:off<cs.size:=by have:=h1 rfl;omega
  simp[this,zq2]
def bE (os:List Obj) (C:Cx) (G:Gh) (w:World) (cs:Array Value) (off:Nat) (ds:List D):Prop:=off+ds.length≤cs.size∧∀ j,j<ds.length→RepT0 C os G w (cs.getD (off+j) undef) (ds.getD j .undef)
theorem bE.take {os:List Obj} {cs:Array Value} {off n:Nat} {ds:List D} (h:bE os C G w cs off ds) (hn:n≤ds.length):bE os C G w cs off (ds.take n):=by
 refine⟨by have:=h.1;simp;omega,fun j hj=> ?_⟩
 simp at hj
 have:=h.2 j (by omega)
 simpa[zq1,List.getElem?_take,(show j<n by omega)]using this
theorem bE.drop {os:List Obj} {cs:Array Value} {off n:Nat} {ds:List D} (h:bE os C G w cs off ds) (hn:n≤ds.length):bE os C G w cs (off+n) (ds.drop n):=by
 refine⟨by have:=h.1;simp;omega,fun j hj=> ?_⟩
 simp at hj
 have:=h.2 (n+j) (by omega)
 simpa[zq1,Nat.add_assoc]using this
theorem FQ {os:List Obj} {u v:Value} {x y:D} {b:Bool} (hx:RepT0 C os G w u x) (hy:RepT0 C os G w v y) (h:vO x y=some b):
  (∃ k a c,u= .int k a∧v= .int k c∧b=(a==c))∨(∃ a c,u= .bool a∧v= .bool c∧b=(a==c))∨(∃ a c,u= .string a∧v= .string c∧b=(a.toList==c.toList)):=by
 unfold vO at h
 split at h
 ·split at h
  ·rename_i hk
   subst hk
   cases h
   have e1:=bF hx.up
   have e2:=bF hy.up
   exact .inl ⟨_,_,_,e1,e2,rfl⟩
  ·cases h
 ·cases h
  exact .inr (.inl ⟨_,_,inv_bool hx.up,inv_bool hy.up,rfl⟩)
 ·cases h
  exact .inr (.inr ⟨_,_,eH hx.up,eH hy.up,rfl⟩)
 ·cases h
def aggD:TypeDesc→Bool
 | .struct _=>true
 | .array _ _=>true
 |_=>false
theorem isAggT_of {t:TypeId} {d:TypeDesc} (h:P.underlying t=some d):isAggT P t=some (aggD d):=by
 unfold isAggT
 rw[h]
 cases d<;>rfl
def FR (P:Program) (C:Cx) (os:List Obj) (G:Gh) (w:World) (n:Nat) (t:TypeId) (ks:List Sk):Prop:=
 ∀ (d:Nat),n≤d→∀ (cs cs':Array Value) (off qR:Nat) (ds k_:List D) (b:Bool),fitsL ks ds=true→fitsL ks k_=true→bE os C G w cs off ds→bE os C G w cs' qR k_→oH ds k_=some b→
  (Op.equalIn d t (cK P t cs off ks.length) (cK P t cs' qR ks.length)).run P w= .ok b w
def gX (P:Program) (n:Nat) (acc:Option (List Sk)) (f:Field):Option (List Sk):=
 match acc,eh P n f.type,P.info? f.type with
 |some a,some s,some i=>match f.name != "_" &&f.offset==a.length&&i.size==s.length with
  |true=>some (a++s)
  |false=>none
 |_,_,_=>none
theorem j4 {n:Nat} {a:List Sk} {f:Field} {a':List Sk} (h:gX P n (some a) f=some a'):
  ∃ s i,eh P n f.type=some s∧P.info? f.type=some i∧f.name≠ "_" ∧f.offset=a.length∧i.size=s.length∧a'=a++s:=by
 simp only[gX]at h
 split at h
 ·rename_i a0 s0 i0 h5 h6 h7
  cases h5
  split at h
  ·rename_i hc
   cases h
   simp only[zq3,beq_iff_eq,bne_iff_ne,ne_eq]at hc
   exact⟨s0,i0,h6,h7,hc.1.1,hc.1.2,hc.2,rfl⟩
  ·cases h
 ·cases h
theorem j5 {n:Nat}:∀ (fs:List Field) (a ks:List Sk),fs.foldl (gX P n) (some a)=some ks→∃ r,ks=a++r
 |[],a,ks,h=>by simp at h;exact⟨[],by simp[h]⟩
 |f::fs,a,ks,h=>by
  rw[List.foldl_cons]at h
  cases e:gX P n (some a) f with
  |none=>rw[e,foldl_none (gX P n) (fun a=>rfl) fs]at h;cases h
  |some a'=>
   rw[e]at h
   obtain⟨s,i,_,_,_,_,_,rfl⟩:=j4 e
   obtain⟨r,rfl⟩:=j5 fs _ ks h
   exact⟨s++r,by simp⟩
theorem nH {n:Nat} {t:TypeId} {s:List Sk} (h:eh P n t=some s):∃ b,isAggT P t=some b∧(b=false→s.length=1):=by
 cases n with
 |zero=>simp[eh]at h
 |succ n=>
  simp only[eh]at h
  cases e:P.underlying t with
  |none=>simp[e]at h
  |some d=>
   refine⟨_,isAggT_of e, ?_⟩
   cases d<;>simp_all [aggD]<;>(subst h;rfl)
theorem pG {os:List Obj} {n:Nat} (ih:∀ t s,eh P n t=some s→FR P C os G w n t s) (d:Nat) (hd:n≤d) (xs ys:Array Value):
  ∀ (fs:List Field) (a r:List Sk),fs.foldl (gX P n) (some a)=some (a++r)→∀ (ds k_:List D) (b:Bool),fitsL r ds=true→fitsL r k_=true→
   bE os C G w xs a.length ds→bE os C G w ys a.length k_→oH ds k_=some b→(Op.eqFields d xs ys fs).run P w= .ok b w
 |[],a,r,hf,ds,k_,b,h1,h2,hx,hy,he=>by
  simp at hf
  subst hf
  have e1:ds=[]:=List.length_eq_zero_iff.1 (fitsL_spec h1).1
  have e2:k_=[]:=List.length_eq_zero_iff.1 (fitsL_spec h2).1
  subst e1 e2
  simp[oH]at he
  subst he
  simp[Op.eqFields]
 |f::fs,a,r,hf,ds,k_,b,h1,h2,hx,hy,he=>by
  rw[List.foldl_cons]at hf
  cases e1:gX P n (some a) f with
  |none=>rw[e1,foldl_none (gX P n) (fun a=>rfl) fs]at hf;cases hf
  |some a'=>
   rw[e1]at hf
   obtain⟨s0,i0,h6,h7,zA,oR,hsz,rfl⟩:=j4 e1
   obtain⟨r',hr'⟩:=j5 fs _ _ hf
   rw[List.append_assoc,List.append_cancel_left_eq]at hr'
   subst hr'
   obtain⟨b0,DU,hb1⟩:=nH h6
   have l1:=(fitsL_spec h1).1
   have l2:=(fitsL_spec h2).1
   simp only[List.length_append]at l1 l2
   obtain⟨f1,f2⟩:=dM s0 r' ds h1
   obtain⟨f3,f4⟩:=dM s0 r' k_ h2
   obtain⟨b1,b2,h8,h9,h10⟩:=oV s0.length ds k_ b (by omega) (by omega) he
   have oI:=hx.1
   have LH:=hy.1
   have p1:=fP h7 DU w xs f.offset (by omega) (fun e=>by rw[hsz];exact hb1 e)
   have p2:=fP h7 DU w ys f.offset (by omega) (fun e=>by rw[hsz];exact hb1 e)
   rw[hsz,oR]at p1 p2
   have hq:=ih f.type s0 h6 d hd xs ys a.length a.length (ds.take s0.length) (k_.take s0.length) b1 f1 f3 (hx.take (by omega)) (hy.take (by omega)) h8
   have hrest:=pG ih d hd xs ys fs (a++s0) r' (by rw[hf,List.append_assoc]) (ds.drop s0.length) (k_.drop s0.length) b2 f2 f4
    (by rw[List.length_append];exact hx.drop (by omega)) (by rw[List.length_append];exact hy.drop (by omega)) h9
   rw[h10]
   simp only[Op.eqFields,zA,ne_eq,not_false_eq_true,if_true,Sem.run_bind,oR,p1,p2,Result.andThen_ok,hq,Sem.run_ite,Sem.run_pure,hrest]
   cases b1<;>simp
def j6 (d:Nat) (e:TypeId) (n:Nat) (xs ys:Array Value):List Nat→Sem Bool
 |[]=>pure true
 |i::is=>do
  let a←part e xs (i*n)
  let b←part e ys (i*n)
  let r←Op.equalIn d e a b
  if (!r)=true then pure false else j6 d e n xs ys is
theorem run_equalIn_array (d:Nat) (t e:TypeId) (len:Nat) (xs ys:Array Value) {i:TypeInfo} (ht:P.underlying t=some (.array len e)) (hi:P.info? e=some i):
  (Op.equalIn (d+1) t (.agg xs) (.agg ys)).run P w=(j6 d e i.size xs ys (List.range' 0 len)).run P w:=by
 simp only[Op.equalIn,Sem.run_bind,run_underlying ht,Result.andThen_ok,run_sizeOf hi]
 rw[Std.Legacy.Range.forIn_eq_forIn_range']
 simp only[Std.Legacy.Range.size,Nat.sub_zero,Nat.add_sub_cancel,Nat.div_one]
 generalize List.range' 0 len=l
 induction l generalizing w with
 |nil=>simp[j6]
 |cons f fs ih=>
  simp only[List.forIn_cons,j6,Sem.run_bind,Sem.run_ite]
  generalize (part e xs (f*i.size)).run P w=r1
  cases r1 with
  |ok a w1=>
   simp only[Result.andThen_ok]
   generalize (part e ys (f*i.size)).run P w1=r2
   cases r2 with
   |ok b w2=>
    simp only[Result.andThen_ok]
    generalize (Op.equalIn d e a b).run P w2=r3
    cases r3 with
    |ok r w3=>
     cases r
     ·simp only[Result.andThen_ok,Bool.not_false,if_true,Sem.run_pure]
     ·simp only[Result.andThen_ok,Bool.not_true,Bool.false_eq_true,if_false,Sem.run_pure]
      exact ih
    |halt x w3=>simp[Result.andThen]
   |halt x w2=>simp[Result.andThen]
  |halt x w1=>simp[Result.andThen]
end
end
section
section
variable {C:Cx} {P:Program} {E:Env} {tm:Array Value} {st:St} {G:Gh} {w:World} {ρ:Operand→Value} {o:Oper} {V:Vw}
theorem fitsL_one {s:Sk} {ds:List D} (h:fitsL [s] ds=true):∃ x,ds=[x]∧fits s x=true:=by
 match ds,h with
 |[x],h=>exact⟨x,rfl,by simpa[fitsL]using h⟩
 |[],h=>simp[fitsL]at h
 |_::_::_,h=>simp[fitsL]at h
theorem qT {os:List Obj} {d n:Nat} {e:TypeId} {s:List Sk} (hok:FR P C os G w n e s) (hd:n≤d) {i:TypeInfo} (hi:P.info? e=some i) (hsz:i.size=s.length)
  {ag:Bool} (ha:isAggT P e=some ag) (h1:ag=false→s.length=1) (xs ys:Array Value) (a a':Nat):
  ∀ (len st:Nat) (ds k_:List D) (b:Bool),fitsL (List.replicate len s).flatten ds=true→fitsL (List.replicate len s).flatten k_=true→
   bE os C G w xs (st*s.length) ds→bE os C G w ys (st*s.length) k_→oH ds k_=some b→(j6 d e i.size xs ys (List.range' st len)).run P w= .ok b w
 |0,st,ds,k_,b,f1,f2,hx,hy,he=>by
  have e1:ds=[]:=List.length_eq_zero_iff.1 (by simpa using (fitsL_spec f1).1)
  have e2:k_=[]:=List.length_eq_zero_iff.1 (by simpa using (fitsL_spec f2).1)
  subst e1 e2
  simp[oH]at he
  subst he
  simp[j6]
 |len+1,st,ds,k_,b,f1,f2,hx,hy,he=>by
  rw[List.replicate_succ,List.flatten_cons]at f1 f2
  have l1:=(fitsL_spec f1).1
  have l2:=(fitsL_spec f2).1
  rw[List.length_append]at l1 l2
  obtain⟨f1,f3⟩:=dM _ _ _ f1
  obtain⟨f2,f4⟩:=dM _ _ _ f2
  obtain⟨b1,b2,h8,h9,h10⟩:=oV s.length ds k_ b (by omega) (by omega) he
  have oI:=hx.1
  have LH:=hy.1
  have p1:=fP hi ha w xs (st*s.length) (by omega) (fun e=>by rw[hsz];exact h1 e)
  have p2:=fP hi ha w ys (st*s.length) (by omega) (fun e=>by rw[hsz];exact h1 e)
  rw[hsz]at p1 p2
  have hq:=hok d hd xs ys (st*s.length) (st*s.length) _ _ b1 f1 f2 (hx.take (by omega)) (hy.take (by omega)) h8
  have ex:st*s.length+s.length=(st+1)*s.length:=by rw[Nat.add_mul,Nat.one_mul]
  have hrest:=qT hok hd hi hsz ha h1 xs ys a a' len (st+1) _ _ b2 f3 f4 (ex▸hx.drop (by omega)) (ex▸hy.drop (by omega)) h9
  rw[h10]
  rw[hsz]at hrest⊢
  simp only[List.range'_succ,j6,Sem.run_bind,p1,p2,Result.andThen_ok,hq,Sem.run_ite,Sem.run_pure,hrest]
  cases b1<;>simp
theorem dA {os:List Obj} {cs:Array Value} {off n:Nat} {ds:List D} (h:bE os C G w cs off ds) (hn:ds.length=n):bE os C G w (cs.extract off (off+n)) 0 ds:=by
 subst hn
 have h1:=h.1
 refine⟨by simp;omega,fun j hj=> ?_⟩
 have:=h.2 j hj
 have e1:off+j<cs.size:=by omega
 simpa[zq2,Array.getElem?_extract,hj,e1,show j<min (off+ds.length) cs.size - off by omega]using this
theorem qv {os:List Obj}:∀ (n:Nat) (t:TypeId) (ks:List Sk),eh P n t=some ks→FR P C os G w n t ks
 |0,t,ks,h=>by simp[eh]at h
 |n+1,t,ks,h=>by
  intro d hd cs cs' off qR ds k_ b h1 h2 hx hy he
  obtain⟨d,rfl⟩:∃ d',d=d'+1:=⟨d - 1,by omega⟩
  simp only[eh]at h
  have sc:∀ s td,ks=[s]→P.underlying t=some td→aggD td=false→∃ x y,RepT0 C os G w (cs.getD off undef) x∧RepT0 C os G w (cs'.getD qR undef) y∧vO x y=some b∧fits s x=true∧
    cK P t cs off ks.length=cs.getD off undef∧cK P t cs' qR ks.length=cs'.getD qR undef:=by
   intro s td hk hu hag
   subst hk
   obtain⟨x,rfl,f1⟩:=fitsL_one h1
   obtain⟨y,rfl,f2⟩:=fitsL_one h2
   obtain⟨p,q,e1,e2,e3⟩:=qS he
   simp[oH]at e2
   subst e2
   refine⟨x,y,by simpa using hx.2 0 (by simp),by simpa using hy.2 0 (by simp),by rw[e1,e3];simp,f1, ?_, ?_⟩<;>simp[cK,isAggT_of hu,hag]
  cases e:P.underlying t with
  |none=>simp[e]at h
  |some td=>
   cases td with
   |bool=>
    simp only[e,zq5]at h
    obtain⟨x,y,r1,r2,e0,f1,v1,v2⟩:=sc .bool _ h.symm e rfl
    rw[v1,v2]
    cases x<;>simp[fits]at f1
    cases y<;>simp[vO]at e0
    rw[inv_bool r1.up,inv_bool r2.up,run_equalIn_bool' _ _ _ _ _ e,←e0]
   |int k=>
    simp only[e,zq5]at h
    obtain⟨x,y,r1,r2,e0,f1,v1,v2⟩:=sc (.int k) _ h.symm e rfl
    rw[v1,v2]
    cases x<;>simp[fits]at f1
    cases y<;>simp[vO]at e0
    rw[bF r1.up,bF r2.up,←e0.1,run_equalIn_int _ _ _ _ _ _ _ e,←e0.2]
   |string=>
    simp only[e,zq5]at h
    obtain⟨x,y,r1,r2,e0,f1,v1,v2⟩:=sc .str _ h.symm e rfl
    rw[v1,v2]
    cases x<;>simp[fits]at f1
    cases y<;>simp[vO]at e0
    rw[eH r1.up,eH r2.up,run_equalIn_string _ _ _ _ _ e,←e0]
   |struct fs=>
    simp only[e]at h
    split at h
    ·rename_i hst
     have h':fs.toList.foldl (gX P n) (some [])=some ([]++ks):=h
     have KI:P.fieldsOf t=fs:=by simp[Program.fieldsOf,e]
     have e':P.underlying t=some (.struct (P.fieldsOf t)):=by rw[KI];exact e
     have va:∀ cs off,cK P t cs off ks.length= .agg (cs.extract off (off+ks.length)):=by intro cs off;simp[cK,isAggT_of e,aggD]
     rw[va,va,run_equalIn_struct _ _ _ _ _ e' hst,KI]
     exact pG (fun t s h=>qv n t s h) d (by omega) _ _ fs.toList [] ks h' ds k_ b h1 h2 (dA hx (fitsL_spec h1).1) (dA hy (fitsL_spec h2).1) he
    ·cases h
   |array len el=>
    simp only[e]at h
    split at h
    ·rename_i s i hs hi
     split at h
     ·rename_i hsz
      simp only[beq_iff_eq]at hsz
      cases h
      have va:∀ cs off,cK P t cs off (List.replicate len s).flatten.length= .agg (cs.extract off (off+(List.replicate len s).flatten.length)):=by intro cs off;simp[cK,isAggT_of e,aggD]
      obtain⟨ag,ha,h3⟩:=nH hs
      rw[va,va,run_equalIn_array _ _ _ _ _ _ e hi]
      have x1:=dA hx (fitsL_spec h1).1
      have y1:=dA hy (fitsL_spec h2).1
      exact qT (qv n el s hs) (by omega) hi hsz ha h3 _ _ 0 0 len 0 ds k_ b h1 h2 (by simpa using x1) (by simpa using y1) he
     ·cases h
    ·cases h
   |_=>simp[e]at h
theorem B9 (h:Rel C tm st G w) {b:BinOp} {t t':TypeId} {x y:Operand} {k:Vk} {d1 d2 v:D} {ws:Wr} (neg:Bool) (aW:o.op= .binOp b t x y t')
  (hb:nD neg b=true) (hk:eh P 100 t=some k.ks) (ha:isAggT P t=some k.agg) (hg:P.eqGuardType P.depth t=false)
  (hx:RepT C st.os G w (ρ x) d1) (hy:RepT C st.os G w (ρ y) d2) (he:Av KS neg k [d1,d2]=some (v,ws)):co C tm st G w v ws ((execOp ρ o).run P w):=by
 simp only[Av]at he
 split at he
 ·rename_i hf
  simp only[zq3]at hf
  split at he
  ·rename_i c hc
   cases he
   have hok:=qv (C:=C) (G:=G) (w:=w) (os:=st.os) 100 t k.ks hk
   cases hka:k.agg with
   |true=>
    rcases Vk.cB hf.1 with⟨_,ds,rfl,l1⟩ |⟨h',_⟩
    ·rcases Vk.cB hf.2 with⟨_,k_,rfl,l2⟩ |⟨h',_⟩
     ·simp only[Vk.fits,hka]at hf
      obtain⟨cs,e1,s1,r1⟩:=hx
      obtain⟨cs',e2,s2,r2⟩:=hy
      have:=hok 10000 (by omega) cs cs' 0 0 ds k_ c hf.1 hf.2 ⟨by omega,by simpa using r1⟩ ⟨by omega,by simpa using r2⟩ hc
      have va:∀ (cs:Array Value),cs.size=k.ks.length→cK P t cs 0 k.ks.length= .agg cs:=by intro cs hs;simp[cK,ha,hka,←hs]
      rw[va cs (by omega),va cs' (by omega)]at this
      have qU:=run_eqGuard_agg (P:=P) w b t x y cs cs' hg
      refine il h ?_
      cases neg<;>cases b<;>simp[nD]at hb<;>simp[execOp,aW,e1,e2,qU,run_eql_struct,run_neq_struct,this,xS]
     ·rw[hka]at h';cases h'
    ·rw[hka]at h';cases h'
   |false=>
    simp only[Vk.fits,hka]at hf
    have BL:RepT0 C st.os G w (ρ x) d1∧cellsOf d1=[d1]:=by
     obtain⟨_,s,_,h3⟩:=iA hf.1
     cases d1<;>first |exact⟨hx,rfl⟩ |(cases s<;>simp[GD.fits]at h3)
    have E1:RepT0 C st.os G w (ρ y) d2∧cellsOf d2=[d2]:=by
     obtain⟨_,s,_,h3⟩:=iA hf.2
     cases d2<;>first |exact⟨hy,rfl⟩ |(cases s<;>simp[GD.fits]at h3)
    rw[BL.2,E1.2]at hc
    have:=hok 10000 (by omega) #[ρ x] #[ρ y] 0 0 [d1] [d2] c hf.1 hf.2 ⟨by simp,fun j hj=>by
     have:j=0:=by simpa using hj
     subst this;simpa using BL.1⟩ ⟨by simp,fun j hj=>by
     have:j=0:=by simpa using hj
     subst this;simpa using E1.1⟩ hc
    have va:∀ (u:Value),cK P t #[u] 0 k.ks.length=u:=by intro u;simp[cK,ha,hka]
    rw[va,va]at this
    refine il h ?_
    obtain⟨p,q,e1,e2,e3⟩:=qS hc
    rcases FQ BL.1 E1.1 e1 with⟨k1,a1,c1,u1,u2,_⟩ |⟨a1,c1,u1,u2,_⟩ |⟨a1,c1,u1,u2,_⟩
    ·simp[oH]at e2
     rename_i hb1
     have zB:c=(a1==c1):=by rw[e3,e2,hb1];simp
     have qU:(eqGuard b t x y (Value.int k1 a1) (Value.int k1 c1)).run P w= .ok () w:=dw (by simp) (by simp) w
     cases neg<;>cases b<;>simp[nD]at hb<;>simp[execOp,aW,u1,u2,qU,binOp,Op.intCmp,xS,zB,bne]
    ·have qU:(eqGuard b t x y (Value.bool a1) (Value.bool c1)).run P w= .ok () w:=dw (by simp) (by simp) w
     rw[u1,u2]at this
     cases neg<;>cases b<;>simp[nD]at hb<;>simp[execOp,aW,u1,u2,qU,binOp,Op.equal,Op.maxDepth,this,xS]
    ·simp[oH]at e2
     rename_i hb1
     have zB:c=(a1.toList==c1.toList):=by rw[e3,e2,hb1];simp
     have qU:(eqGuard b t x y (Value.string a1) (Value.string c1)).run P w= .ok () w:=dw (by simp) (by simp) w
     cases neg<;>cases b<;>simp[nD]at hb<;>simp[execOp,aW,u1,u2,qU,binOp,Op.stringOp,xS,zB]
  ·cases he
 ·cases he
end
end
section
section
variable {C:Cx} {P:Program} {E:Env} {tm:Array Value} {st:St} {G:Gh} {w:World} {ρ:Operand→Value} {o:Oper} {V:Vw}
abbrev bx (G:Gh) (id:Nat) (gh:Value×Option Nat):Gh:=fun j=>if j=id then gh else G j
theorem uy {os:List Obj} {id:Nat} {o':Obj} {gh:Value×Option Nat} {w':World} (hsz:w.heap.size≤w'.heap.size) (xJ:∀ b,gh.2=some b→w.heap.size≤b) {b:Nat}
  (h:okB C os G w b):okB C (os.set id o') (bx G id gh) w' b:=by
 refine⟨by have:=h.1;omega,fun ⟨j,oj,hj,hl,hb⟩=> ?_,h.2.2⟩
 rw[List.getElem?_set]at hj
 by_cases e:id=j
 ·subst e
  simp only[bx,if_true]at hb
  have:=xJ b hb
  have:=h.1
  omega
 ·have e': ¬j=id:=fun x=>e x.symm
  simp only[e,if_false]at hj
  simp only[bx,e',if_false]at hb
  exact h.2.1 ⟨j,oj,hj,hl,hb⟩
theorem j7 {os:List Obj} {id i:Nat} (hid:os[id]? =some .dead) (hi:isDead (os.getD i .gone)=false):i≠id:=by
 rintro rfl
 simp[zq1,hid,isDead]at hi
theorem B_ {os:List Obj} {id i:Nat} {o':Obj} {gh:Value×Option Nat} (hid:os[id]? =some .dead) (hi:isDead (os.getD i .gone)=false):
  (oAt (os.set id o') i=oAt os i∧bx G id gh i=G i)∨oAt (os.set id o') i= .no:=by
 have hne:=j7 hid hi
 have hlt:id<os.length:=(zq6.1 hid).1
 left
 rw[dE hlt]
 simp[bx,hne]
theorem Rel.newObj (h:Rel C tm st G w) {id:Nat} {o':Obj} {gh:Value×Option Nat} {w':World} (hid:st.os[id]? =some .dead) (hd:isDead o'=false)
  (xJ:∀ b,gh.2=some b→w.heap.size≤b∧b<w'.heap.size) (hsame:∀ b,b<w.heap.size→w'.heap[b]? =w.heap[b]?) (hsz:w.heap.size≤w'.heap.size)
  (ht:w'.tape=w.tape) (hos:w'.os=w.os) (hout:w'.output=w.output)
  (ho:ObjRel C (st.os.set id o') (bx G id gh) w' id o') (hro:∀ i,i∈refsO o'→isDead ((st.os.set id o').getD i .gone)=false):Rel C tm ⟨st.ts,st.os.set id o'⟩ (bx G id gh) w':=
 h.GK hid (.inl rfl) hd (fun _ b hb=> .inl (xJ b hb)) (fun b hb _=>hsame b hb) hsz ht hos hout ho hro
theorem AD {ss:List Nat} {os:List Obj} (h:(ss.all fun s=>Nat.blt s os.length&&isDead (os.getD s .gone))=true):∀ s,s∈ss→os[s]? =some .dead:=by
 intro s hs
 have:=List.all_eq_true.1 h s hs
 simp only[zq3,Nat.blt_eq]at this
 have h2:=this.2
 rw[zq1]at h2
 rw[zq4 this.1]at h2⊢
 generalize st2:os[s]'this.1=x at h2
 cases x<;>simp[isDead]at h2
 rfl
theorem iB (os:List Obj) (id:Nat) (o:Obj):wrL os [(id,o)]=os.set id o:=rfl
theorem pH (h:Rel C tm st G w) {s:Nat} (hs:st.os[s]? =some .dead) {cells:Array Value} {t:TypeId} {cs:List D} (hl:cells.size=cs.length)
  (hc:∀ j,j<cs.length→RepT0 C st.os G w (cells.getD j undef) (cs.getD j .undef)) (hp:cs.all cell0=true) (hr:∀ id,id∈refsL cs→isDead (st.os.getD id .gone)=false) {r:Result Next}
  (hrun:r= .ok (.value (.pointer (some ⟨w.heap.size,0,none⟩))) (w.alloc (.cells cells t))):co C tm st G w (.ptr s 0) [(s,.var cs)] r:=by
 have hlt:s<st.os.length:=(zq6.1 hs).1
 have hrel:Rel C tm ⟨st.ts,st.os.set s (.var cs)⟩ (bx G s (.pointer (some ⟨w.heap.size,0,none⟩),some w.heap.size)) (w.alloc (.cells cells t)):=by
  refine h.newObj hs rfl (fun b hb=>by cases hb;simp) (fun b hb=>heap_alloc_old w _ b hb) (by simp) rfl rfl rfl ?_ (fun i hi=>cJ rfl (hr i hi))
  refine⟨w.heap.size,cells,t,by simp[bx],heap_alloc_new w _,hl,fun j hj=>⟨?_,List.all_eq_true.1 hp _ (mem_getD hj)⟩⟩
  refine (hc j hj).mono (fun b hb=>uy (by simp) (fun b hb=>by cases hb;exact Nat.le_refl _) hb) (fun b hb=>heap_alloc_old w _ b hb.1) (fun i hi=>B_ hs (hr i (List.mem_flatMap.2 ⟨_,mem_getD hj,hi⟩)))
 refine⟨_,_,_,.inl hrun,hrel,⟨⟨_,rfl,rfl⟩, ?_⟩, ?_, ?_⟩
 ·rw[iB,dE hlt]
  simp[oSh,bx]
 ·intro i hi
  simp[refsD,refs1,refs0]at hi
  subst hi
  simp[wrL,zq1,hlt,isDead]
 ·intro i hi
  simp[bx,j7 hs hi]
theorem ya (h:Rel C tm st G w) {s:Nat} (hs:st.os[s]? =some .dead) {t:TypeId} {zero:List D} (aW:o.op= .alloc t) (hz:oQ P t zero=true):
  co C tm st G w (.ptr s 0) [(s,.var zero)] ((execOp ρ o).run P w):=by
 unfold oQ at hz
 split at hz
 ·rename_i z e
  simp only[zq3]at hz
  obtain⟨h1,h2⟩:=f_ hz.1
  cases ei:P.info? t with
  |none=>simp[ei]at e
  |some i=>
   simp[ei]at e
   have e2:∀ j,z.cells.toList.getD j undef=z.cells.getD j undef:=fun j=>by simp[zq2,zq1]
   refine pH h hs (t:=t) (cells:=z.cells) (by simpa using h1) (fun j hj=> ?_) hz.2 (fun id hid=> ?_) ?_
   ·have:=h2 j hj
    rw[e2]at this
    exact jc this st.os
   ·obtain⟨d,hd,hi⟩:=List.mem_flatMap.1 hid
    obtain⟨j,hj,rfl⟩:=List.getElem_of_mem hd
    have:=h2 j hj
    rw[zq1 (l:=zero),zq4 hj]at this
    simp only[Option.getD_some]at this
    rw[(jb this).2]at hi
    cases hi
   ·simp[execOp,aW,Instr.alloc,zeroValue,typeInfo,ei,e,newVar,newRow]
 ·cases hz
theorem qV {os:List Obj} {v:Value} {d:D} (h:RepT C os G w v d) (hc:(cellsOf d).all cell0=true):
  v.cells.size=(cellsOf d).length∧∀ j,j<(cellsOf d).length→RepT0 C os G w (v.cells.getD j undef) ((cellsOf d).getD j .undef):=by
 cases d with
 |agg cs=>
  obtain⟨cells,rfl,h1,h2⟩:=h
  exact⟨h1,h2⟩
 |tup _=>simp[cellsOf,cell0,pure0]at hc
 |_=>
  simp only[cellsOf,List.all_cons,List.all_nil,Bool.and_true]at hc
  have hv:v.cells= #[v]:=by
   simp only[RepT,RepT1]at h
   first
    |(simp[cell0,pure0]at hc;done)
    |(simp only[RepT0]at h
      first
       |(obtain⟨caps,Hh,_,_⟩:=h;rw[Hh];rfl)
       |(cases h<;>rfl)
       |(obtain⟨⟨a,c,rfl,_⟩,_⟩:=h;rfl))
  rw[hv]
  refine⟨rfl,fun j hj=> ?_⟩
  have:j=0:=by simpa[cellsOf]using hj
  subst this
  exact h
theorem j8 {d:D} (hc:(cellsOf d).all cell0=true):refsL (cellsOf d)=refsD d:=by
 cases d<;>first |rfl |(simp[cellsOf,refsL,refsD,refs1,refs0,refsb];done) |(simp[cellsOf,cell0,pure0]at hc;done)
theorem Ca (h:Rel C tm st G w) {s:Nat} (hs:st.os[s]? =some .dead) {t:TypeId} {x:Operand} {d:D} (aW:o.op= .box t x) (hc:(cellsOf d).all cell0=true)
  (hx:RepT C st.os G w (ρ x) d∧∀ id,id∈refsD d→isDead (st.os.getD id .gone)=false):
  co C tm st G w (.ptr s 0) [(s,.var (cellsOf d))] ((execOp ρ o).run P w):=by
 obtain⟨h1,h2⟩:=qV hx.1 hc
 refine pH h hs (t:=t) h1 h2 hc (by rw[j8 hc];exact hx.2) ?_
 simp[execOp,aW,Instr.box,newVar,newRow]
end
end
end Go.Proofs.Ytkfnkiejikhglaa.GD
