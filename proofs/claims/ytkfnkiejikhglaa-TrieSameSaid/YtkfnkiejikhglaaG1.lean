/- A value-level interpreter of the translated code, with the proof that it is sound: part 1. -/
import GoSem.Dispatch
import Derived.Orders
import Derived.Laws.AppendOwn
import Derived.Laws.OwnMore
import Derived.Laws.World
import Derived.Laws.StructEq
import Derived.Laws.Strings
import Derived.Laws.Tables
import Derived.Laws.Slices
import Derived.Laws.MakeOwn
import Derived.Laws.IdiomStrings
import Derived.Laws.BytesArg
import Derived.TacticsIn
import Derived.OrdersIn
import Derived.RangeFuncRecord
import Derived.RangeFuncIn
import Derived.MapKept
import Derived.Carry
import Derived.Tactics
import Derived.ControlIn
import Derived.Scope
import Derived.RangeFuncLeaves
import Derived.Below
import Derived.ChangeArms
import Derived.SizedLaws
import Derived.ChangeShapes
import Derived.ChangeOld
import Derived.OpenShut
import Derived.JoinedOf
set_option linter.unusedVariables false
set_option linter.unusedSimpArgs false
namespace Go.Proofs.Ytkfnkiejikhglaa.GD
open Go
section
theorem zq1 {α : Type} {l : List α} {i : Nat} {a : α} : l.getD i a = l[i]?.getD a := List.getD_eq_getElem?_getD
theorem zq2 {α : Type} {xs : Array α} {i : Nat} {d : α} : xs.getD i d = xs[i]?.getD d := Array.getD_eq_getD_getElem?
theorem zq3 (a b : Bool) : ((a && b) = true) = (a = true ∧ b = true) := Bool.and_eq_true a b
theorem zq4 {α : Type} {l : List α} {i : Nat} (h : i < l.length) : l[i]? = some l[i] := List.getElem?_eq_getElem h
theorem zq5 {α : Type} (a b : α) : (some a = some b) = (a = b) := Option.some.injEq a b
theorem zq6 {α : Type} {l : List α} {i : Nat} {a : α} : l[i]? = some a ↔ ∃ h : i < l.length, l[i] = a := List.getElem?_eq_some_iff
inductive D where
 |undef
 |int (k:IntKind) (n:Int)
 |bool (b:Bool)
 |str (s:ByteArray)
 |sl (e:TypeId) (nb:Bool) (els:List D)
 |zs (e:TypeId) (nb:Bool)
 |agg (cs:List D)
 |fn (f:FuncId) (caps:List D)
 |nilfn
 |rp (cs:List D) (off:Nat)
 |tup (ds:List D)
 |own (e:TypeId) (id len:Nat)
 |ownv (e:TypeId) (id off len:Nat)
 |ptr (id off:Nat)
 |ela (b:D) (i:Nat) (off:Nat)
 |ov (e:TypeId) (nb:Bool) (els:List D)
 |pv (cs:List D)
 |elp (id lo n i:Nat)
 |mo (id:Nat)
 |mpv (ks vs:List D)
 |elaP (b:D) (i lo n j:Nat)
 |mpl (ks vs:List D)
 |fnr (f:FuncId) (ids:List Nat)
 |yl (id:Nat)
 deriving Inhabited
def D.i:D→Int | .int _ n=>n |_=>0
def D.b:D→Bool | .bool b=>b |_=>false
def D.s:D→ByteArray | .str s=>s |_=>⟨#[]⟩
def D.nb:D→Bool | .sl _ b _=>b | .ov _ b _=>b |_=>false
def D.els:D→List D | .sl _ _ l=>l | .ov _ _ l=>l |_=>[]
def D.cs:D→List D | .agg l=>l | .pv l=>l |_=>[]
def D.cell:D→Nat→D
 | .agg l,j=>l.getD j .undef
 |d,0=>d
 |_,_+1=> .undef
def D.mks:D→List D | .mpv ks _=>ks |_=>[]
def D.mvs:D→List D | .mpv _ vs=>vs |_=>[]
def D.caps:D→List D | .fn _ c=>c |_=>[]
def D.fi:D→FuncId
 | .fn f _=>f
 |_=>0
inductive Sk where
 |int (k:IntKind) |bool |str |sl (e:TypeId) |fn |Gu (f:FuncId) |El (f:FuncId)
 deriving DecidableEq,Inhabited
def eta:Sk→D→D
 | .int k,d=> .int k d.i
 | .bool,d=> .bool d.b
 | .str,d=> .str d.s
 | .sl e,d=> .sl e d.nb d.els
 | .fn,d=> .fn d.fi []
 | .Gu f,_=> .fn f []
 | .El f,d=> .fn f d.caps
def fits:Sk→D→Bool
 | .int k,.int k' _=>k=k'
 | .bool,.bool _=>true
 | .str,.str _=>true
 | .sl e,.sl e' _ _=>e=e'
 | .fn,.fn _ c=>c.isEmpty
 | .Gu f,.fn g c=>Nat.beq f g&&c.isEmpty
 | .El f,.fn g _=>Nat.beq f g
 |_,_=>false
def fitsL:List Sk→List D→Bool
 |[],[]=>true
 |k::ks,d::ds=>fits k d&&fitsL ks ds
 |_,_=>false
structure Vk where
 agg:Bool
 ks:List Sk
 deriving DecidableEq,Inhabited
def Vk.fits (k:Vk) (d:D):Bool:=
 match k.agg,d with
 |true,.agg ds=>fitsL k.ks ds
 |false,d=>fitsL k.ks [d]
 |_,_=>false
def bK:List Sk→D→Nat→List D
 |[],_,_=>[]
 |k::ks,d,j=>eta k (d.cell j)::bK ks d (j+1)
def eT:List Sk→List D→Nat→List D
 |[],_,_=>[]
 |k::ks,l,j=>eta k (l.getD j .undef)::eT ks l (j+1)
def etaV (k:Vk) (d:D) (off:Nat):D:=
 match k.agg with
 |true=> .agg (bK k.ks d off)
 |false=>match k.ks with |[s]=>eta s (d.cell off) |_=> .undef
inductive Opd where
 |t (n:Nat)
 |c (d:D)
 deriving Inhabited
inductive Obj where
 |dead
 |gone
 |arr (e:TypeId) (nb:Bool) (els:List D)
 |fro (e:TypeId) (nb:Bool) (els:List D)
 |var (cs:List D)
 |frv (cs:List D)
 |mp (k e:Vk) (ks vs:List D)
 deriving Inhabited
structure St where
 ts:List D
 os:List Obj
def Opd.val (ts:List D):Opd→D
 | .t n=>ts.getD n .undef
 | .c d=>d
inductive Am where
 |p
 |g (e:TypeId)
 |m (e:TypeId)
 |v (ks:List Sk)
 deriving DecidableEq,Inhabited
inductive Rm where
 |p (k:Vk)
 |o (e:TypeId)
 deriving DecidableEq,Inhabited
structure zy where
 am:List Am
 rm:List Rm
structure Env where
 ty:TypeId→Option Vk
 sig:FuncId→Option zy
 call:FuncId→List D→Option (List D)
 wty:FuncId→Option TypeId
 yld:Option (TypeId×(List D→Option (List D)))
abbrev Wr:=List (Nat×Obj)
abbrev Vw:=Nat→Obj
def h_ (os:Vw):D→Option (TypeId×List D)
 | .sl e _ l=>some (e,l)
 | .zs e _=>some (e,[])
 | .own _ id _=>match os id with | .arr e _ l=>some (e,l) | .fro e _ l=>some (e,l) |_=>none
 | .ownv _ id off len=>match os id with | .arr e _ l=>some (e,(l.drop off).take len) | .fro e _ l=>some (e,(l.drop off).take len) |_=>none
 |_=>none
def mD (E:Env) (e:TypeId) (off:Nat) (k:Vk):Bool:=
 match E.ty e with
 |some el=>Nat.ble (off+k.ks.length) el.ks.length&&(el.ks.drop off).take k.ks.length==k.ks&&(k.agg ||k.ks.length==1)
 |none=>false
def lv (E:Env) (e:TypeId) (lo n:Nat) (k:Vk):Bool:=
 match E.ty e with
 |some el=>Nat.ble (lo+n) el.ks.length&&((el.ks.drop lo).take n).all (fun s=>k.ks==[s])&& !k.agg
 |none=>false
def ib:D→Option Nat
 | .sl _ _ l=>some l.length
 | .zs _ _=>some 0
 | .own _ _ len=>some len
 | .ownv _ _ _ len=>some len
 |_=>none
def xX:D→Option Nat
 | .str s=>some s.size
 |d=>ib d
def tD (os:Vw):D→Option Bool
 | .sl _ nb _=>some nb
 | .zs _ nb=>some nb
 | .own _ id _=>match os id with | .arr _ nb _=>some nb | .fro _ nb _=>some nb |_=>none
 |_=>none
def bT (os:Vw):D→D×Wr
 | .own _ id _=>match os id with
  | .arr e nb l=>(.sl e nb l,[(id,.fro e nb l)])
  | .fro e nb l=>(.sl e nb l,[])
  |_=>(.undef,[])
 | .ownv _ id off len=>match os id with
  | .arr e nb l=>(.sl e nb ((l.drop off).take len),[(id,.fro e nb l)])
  | .fro e nb l=>(.sl e nb ((l.drop off).take len),[])
  |_=>(.undef,[])
 | .zs e nb=>(.sl e nb [],[])
 |d=>(d,[])
def frzL (os:Vw):List D→List D×Wr
 |[]=>([],[])
 |d::ds=>let p:=bT os d;let q:=frzL os ds;(p.1::q.1,p.2++q.2)
def cY:D→D
 | .zs e nb=> .sl e nb []
 |d=>d
def frz (os:Vw):D→D×Wr
 | .agg cs=>let p:=frzL os cs;(.agg p.1,p.2)
 | .ptr id off=>match os id with
  | .var cs=>(.rp (cs.map cY) off,[(id,.frv (cs.map cY))])
  | .frv cs=>(.rp cs off,[])
  |_=>(.undef,[])
 |d=>bT os d
def pure0:D→Bool
 | .int .. | .bool _ | .str _ | .sl .. | .fn .. | .nilfn | .rp .. | .mpl .. =>true
 |_=>false
def rpOk:D→Bool
 | .rp cs _=>cs.all pure0
 |_=>true
def pureD:D→Bool
 | .agg cs=>cs.all pure0
 |d=>pure0 d&&rpOk d
def cell0:D→Bool
 | .zs .. | .own .. | .fnr .. =>true
 |d=>pure0 d
def cellsOf:D→List D
 | .agg cs=>cs
 |d=>[d]
def bm (cs:List D) (off:Nat):List D→List D
 |[]=>cs
 |d::ds=>bm (cs.set off d) (off+1) ds
inductive tE where
 |mv
 |pick
 |alloc (site:Nat) (zero:List D)
 |box (site:Nat)
 |build (zero:List D) (parts:List (Nat×Nat))
 |bp (site:Nat) (e:TypeId)
 |load (k:Vk)
 |store (k:Vk)
 |bin (op:BinOp)
 |eqv (neg:Bool) (k:Vk)
 |ow (neg:Bool)
 |not
 |neg
 |conv (k:IntKind)
 |bytes (e:TypeId)
 |slice (e:Option TypeId) (lo hi mx:Bool)
 |aY (off:Nat)
 |part (k:Vk) (off:Nat)
 |xY
 |Bn (k:Vk) (n:Nat)
 |aB (e:TypeId)
 |zD (n:Nat)
 |fp
 |ox (e:TypeId)
 |ext (j:Nat)
 |len
 |Dh
 |append (site:Nat) (e:TypeId) (bytes:Nat)
 |copy (e:TypeId)
 |clear (e:TypeId) (zero:D)
 |call (a8:List Nat)
 |vo (f:FuncId)
 |zE (site:Nat) (e:TypeId) (zero:D) (bytes:Nat)
 |mn
 |mx
 |mkMap (site:Nat) (k e:Vk)
 |xZ (k e:Vk) (zero:D) (ok:Bool)
 |x_ (k e:Vk)
 |kT (e:TypeId) (n:Nat)
 |zF
 |zG (k:Vk)
 |Di
 |zH
 |zI (f:FuncId)
 |iX (site row:Nat)
 |oy (e:Option TypeId) (lo hi:Bool)
 |yld (site row:Nat)
 |bad
 deriving Inhabited
def refsb:D→List Nat
 | .mo id=>[id]
 | .own _ id _=>[id]
 | .ownv _ id _ _=>[id]
 |_=>[]
def refs0:D→List Nat
 | .ptr id _=>[id]
 | .elp id _ _ _=>[id]
 | .ela b _ _=>refsb b
 | .elaP b _ _ _ _=>refsb b
 | .fnr _ ids=>ids
 | .yl id=>[id]
 |d=>refsb d
def refsL (ds:List D):List Nat:=ds.flatMap refs0
def refs1:D→List Nat
 | .agg cs=>refsL cs
 |d=>refs0 d
def refsD:D→List Nat
 | .tup ds=>ds.flatMap refs1
 |d=>refs1 d
def nodupB:List Nat→Bool
 |[]=>true
 |x::xs=> !xs.contains x&&nodupB xs
def apart (xs ys:List Nat):Bool:=xs.all fun x=> !ys.contains x
section eff
variable {R:Type} (K:D→Wr→Option R)
def oz (op:BinOp) (k:IntKind) (a b:Int):Option R:=
 match op with
 | .add=>K (.int k (k.wrap (a+b))) []
 | .sub=>K (.int k (k.wrap (a - b))) []
 | .mul=>K (.int k (k.wrap (a*b))) []
 | .quo=>if b=0 then none else K (.int k (k.wrap (a.tdiv b))) []
 | .rem=>if b=0 then none else K (.int k (a.tmod b)) []
 | .and=>K (.int k (k.wrap (BitVec.ofInt k.bits a&&&BitVec.ofInt k.bits b).toNat)) []
 | .or=>K (.int k (k.wrap (BitVec.ofInt k.bits a |||BitVec.ofInt k.bits b).toNat)) []
 | .xor=>K (.int k (k.wrap (BitVec.ofInt k.bits a^^^BitVec.ofInt k.bits b).toNat)) []
 | .andNot=>K (.int k (k.wrap (BitVec.ofInt k.bits a&&&~~~(BitVec.ofInt k.bits b)).toNat)) []
 | .eql=>K (.bool (a==b)) []
 | .neq=>K (.bool (a !=b)) []
 | .lss=>K (.bool (decide (a<b))) []
 | .leq=>K (.bool (decide (a≤b))) []
 | .gtr=>K (.bool (decide (b<a))) []
 | .geq=>K (.bool (decide (b≤a))) []
 |_=>none
def qy (op:BinOp) (k:IntKind) (a b:Int):Option R:=
 match op with
 | .shl=>if b<0 then none else K (.int k (k.wrap (a*2^(min b.toNat k.bits)))) []
 | .shr=>if b<0 then none else K (.int k (a.fdiv (2^(min b.toNat k.bits)))) []
 |_=>none
def oA (op:BinOp) (a b:ByteArray):Option R:=
 match op with
 | .add=>if ((a.size+b.size:Nat):Int)>IntKind.i64.max then none else K (.str (a++b)) []
 | .eql=>K (.bool (a.toList==b.toList)) []
 | .neq=>K (.bool (!(a.toList==b.toList))) []
 | .lss=>K (.bool (Op.bytesLess a.toList b.toList)) []
 | .leq=>K (.bool (Op.bytesLess a.toList b.toList ||a.toList==b.toList)) []
 | .gtr=>K (.bool (!(Op.bytesLess a.toList b.toList ||a.toList==b.toList))) []
 | .geq=>K (.bool (!(Op.bytesLess a.toList b.toList))) []
 |_=>none
def Bo:BinOp→Bool | .shl | .shr=>true |_=>false
def ya (op:BinOp):List D→Option R
 |[.int k a,.int k' b]=>match Bo op with
  |true=>qy K op k a b
  |false=>if k=k' then oz K op k a b else none
 |[.str a,.str b]=>oA K op a b
 |_=>none
def tF:D→D→Option Bool
 | .int k a,.int k' b=>if k=k' then some (a==b)else none
 | .bool a,.bool b=>some (a==b)
 | .str a,.str b=>some (a.toList==b.toList)
 |_,_=>none
def mB:List D→List D→Option Bool
 |[],[]=>some true
 |x::xs,y::ys=>match tF x y with
  |some p=>match xs,ys with
   |[],[]=>some p
   |xs,ys=>match mB xs ys with
    |some q=>some (p&&q)
    |none=>none
  |none=>none
 |_,_=>none
def nM (a b:D):Bool:=(mB (cellsOf a) (cellsOf b)).getD false
def ku (x:D):List D→List D→Option D
 |k::ks,v::vs=>match nM x k with |true=>some v |false=>ku x ks vs
 |_,_=>none
def gr (x:D):List D→List D
 |k::ks=>match nM x k with |true=>k::ks |false=>k::gr x ks
 |[]=>[x]
def ic (x y:D):List D→List D→List D
 |k::ks,v::vs=>match nM x k with |true=>y::vs |false=>v::ic x y ks vs
 |_,_=>[y]
def oB (site:Nat) (k e:Vk):List D→Option R
 |[]=>K (.mo site) [(site,.mp k e [] [])]
 |_=>none
def qz (k e:Vk) (z:D) (ok:Bool) (os:Vw):List D→Option R
 |[.mo id,x]=>match os id with
  | .mp k' e' ks vs=>match decide (k'=k)&&decide (e'=e)&&k.fits x with
   |true=>match ok with
    |true=>K (.tup [etaV e ((ku x ks vs).getD z) 0,.bool (ku x ks vs).isSome]) []
    |false=>K (etaV e ((ku x ks vs).getD z) 0) []
   |false=>none
  |_=>none
 |_=>none
def qA (k e:Vk) (os:Vw):List D→Option R
 |[.mo id,x,v]=>match os id with
  | .mp k' e' ks vs=>match decide (k'=k)&&decide (e'=e)&&k.fits x&&e.fits v with
   |true=>K (.tup []) [(id,.mp k e (gr x ks) (ic x v ks vs))]
   |false=>none
  |_=>none
 |_=>none
def CL (x:D):List D→List D
 |k::ks=>match nM x k with |true=>ks |false=>k::CL x ks
 |[]=>[]
def CM (x:D):List D→List D→List D
 |k::ks,v::vs=>match nM x k with |true=>vs |false=>v::CM x ks vs
 |_,_=>[]
def wT (os:Vw):List D→Option R
 |[.mo id]=>match os id with
  | .mp _ _ ks _=>K (.int .i64 ks.length) []
  |_=>none
 |_=>none
def wU (k:Vk) (os:Vw):List D→Option R
 |[.mo id,x]=>match os id with
  | .mp k' e ks vs=>match decide (k'=k)&&k.fits x with
   |true=>K (.tup []) [(id,.mp k e (CL x ks) (CM x ks vs))]
   |false=>none
  |_=>none
 |_=>none
def wV (os:Vw):List D→Option R
 |[.mo id]=>match os id with
  | .mp _ _ ks vs=>K (.mpl ks vs) [(id,.gone)]
  |_=>none
 |_=>none
def vp (neg b:Bool):Bool:=match neg with |true=> !b |false=>b
def yb (neg:Bool) (k:Vk):List D→Option R
 |[x,y]=>match k.fits x&&k.fits y with
  |true=>match mB (cellsOf x) (cellsOf y)with
   |some b=>K (.bool (vp neg b)) []
   |none=>none
  |false=>none
 |_=>none
def mE (neg:Bool) (os:Vw):List D→Option R
 |[x]=>match tD os x with
  |some b=>K (.bool (vp neg b)) []
  |none=>none
 |_=>none
def tG:List D→Option R
 |[.bool c,a,b]=>match c with |true=>K a [] |false=>K b []
 |_=>none
def iz (zero:List D):List (Nat×Nat)→List D→Option R
 |[],[]=>K (.agg zero) []
 |(off,n)::ps,d::ds=>match (cellsOf d).all cell0&&(cellsOf d).length==n&&Nat.ble (off+n) zero.length with
  |true=>iz (bm zero off (cellsOf d)) ps ds
  |false=>none
 |_,_=>none
def fM (k:Vk) (off:Nat) (cs:List D):Option R:=
 match Nat.ble (off+k.ks.length) cs.length with
 |true=>match k.agg with
  |true=>K (.agg ((cs.drop off).take k.ks.length)) []
  |false=>K (cs.getD off .undef) []
 |false=>none
def kU (k:Vk) (lo n i:Nat) (cs:List D):Option R:=
 match k.agg,k.ks with
 |false,[s]=>match Nat.ble (lo+n) cs.length&&((cs.drop lo).take n).all (fits s)with
  |true=>K (eta s (cs.getD (lo+i) .undef)) []
  |false=>none
 |_,_=>none
def qB (s:Sk) (lo n i:Nat) (v:D):List D→Nat→List D
 |[],_=>[]
 |c::cs,j=>(match Nat.ble lo j&&Nat.blt j (lo+n)with |true=>eta s (bif Nat.beq (lo+i) j then v else c) |false=>c)::qB s lo n i v cs (j+1)
def fq (E:Env) (k:Vk) (os:Vw):List D→Option R
 |[.elp id lo n i]=>match os id with
  | .var cs=>kU K k lo n i cs
  | .frv cs=>kU K k lo n i cs
  |_=>none
 |[.ela b i off]=>match h_ os b with
  |some (e,l)=>match mD E e off k with
   |true=>K (etaV k (l.getD i .undef) off) []
   |false=>none
  |none=>none
 |[.elaP b i lo n j]=>match h_ os b with
  |some (e,l)=>match lv E e lo n k with
   |true=>K (etaV k (l.getD i .undef) (lo+j)) []
   |false=>none
  |none=>none
 |[.ptr id off]=>match os id with
  | .var cs=>fM K k off cs
  | .frv cs=>fM K k off cs
  |_=>none
 |[.rp cs off]=>fM K k off cs
 |_=>none
def eW (k el:Vk) (d:D) (off:Nat) (v:D):D:=
 match el.agg with
 |false=>v
 |true=>if off=0∧k.agg=true∧k.ks.length=el.ks.length then v else .agg (bm (bK el.ks d 0) off (cellsOf v))
def d9 (E:Env) (k:Vk) (os:Vw) (id j off:Nat) (v:D):Option R:=
 let p:=frz os v
 match os id with
 | .arr e nb l=>match E.ty e with
  |some el=>match k.fits p.1&&mD E e off k&&(el.agg || !k.agg)&&p.2.all (fun q=> !(Nat.beq q.1 id))with
   |true=>K (.tup []) (p.2++[(id,.arr e nb (l.set j (eW k el (l.getD j .undef) off p.1)))])
   |false=>none
  |none=>none
 |_=>none
def jv (E:Env) (k:Vk) (os:Vw):List D→Option R
 |[.elp id lo n i,v]=>match os id with
  | .var cs=>match k.agg,k.ks with
   |false,[s]=>match fits s v&&(Nat.ble (lo+n) cs.length&&((cs.drop lo).take n).all (fits s))with
    |true=>K (.tup []) [(id,.var (qB s lo n i v cs 0))]
    |false=>none
   |_,_=>none
  |_=>none
 |[.ela (.own _ id _) i off,v]=>d9 K E k os id i off v
 |[.ela (.ownv _ id o _) i off,v]=>d9 K E k os id (o+i) off v
 |[.ptr id off,v]=>match os id with
  | .var cs=>match (cellsOf v).all cell0&&(cellsOf v).length==k.ks.length&&Nat.ble (off+k.ks.length) cs.length with
   |true=>K (.tup []) [(id,.var (bm cs off (cellsOf v)))]
   |false=>none
  |_=>none
 |_=>none
def tH:D→Option TypeId
 | .sl e _ _=>some e
 | .zs e _=>some e
 | .own e _ _=>some e
 | .ownv e _ _ _=>some e
 |_=>none
def zJ (n:Nat):Bool→Bool→List D→Option (Int×Int)
 |false,false,[]=>some (0,n)
 |true,false,[.int _ a]=>some (a,n)
 |false,true,[.int _ b]=>some (0,b)
 |true,true,[.int _ a,.int _ b]=>some (a,b)
 |_,_,_=>none
def qm (l h:Int) (os:Vw):D→Option R
 | .sl e nb els=>if 0≤l∧l≤h∧h≤(els.length:Nat)then K (.sl e nb ((els.drop l.toNat).take (h.toNat - l.toNat))) []else none
 | .own e id n=>if 0≤l∧l≤h∧h≤(n:Nat)then K (.ownv e id l.toNat (h.toNat - l.toNat)) []else none
 | .ownv e id o _=>match os id with
  | .arr _ _ els=>if 0≤l∧l≤h∧((o:Nat):Int)+h≤(els.length:Nat)then K (.ownv e id (o+l.toNat) (h.toNat - l.toNat)) []else none
  | .fro _ _ els=>if 0≤l∧l≤h∧((o:Nat):Int)+h≤(els.length:Nat)then K (.ownv e id (o+l.toNat) (h.toNat - l.toNat)) []else none
  |_=>none
 | .str s=>if 0≤l∧l≤h∧h≤(s.size:Nat)then K (.str (s.extract l.toNat h.toNat)) []else none
 |_=>none
def lz (os:Vw):D→Option R
 | .sl e nb _=>K (.zs e nb) []
 | .own _ id _=>match os id with
  | .arr e nb _=>K (.zs e nb) []
  | .fro e nb _=>K (.zs e nb) []
  |_=>none
 |_=>none
def iA (te:Option TypeId) (lo hi mx:Bool) (os:Vw):List D→Option R
 |[]=>none
 |x::bs=>
  match te==tH x with
  |false=>none
  |true=>match mx with
   |true=>match bs with
    |[.int _ a,.int _ b,.int _ c]=>if a=0∧b=0∧c=0 then lz K os x else match ib x with
     |some n=>if 0≤a∧a≤b∧b≤c∧c≤(n:Nat)then K .undef []else none
     |none=>none
    |_=>none
   |false=>match xX x with
    |some n=>match zJ n lo hi bs with
     |some (l,h)=>qm K l h os x
     |none=>none
    |none=>none
def nZ (te:Option TypeId) (lo hi:Bool) (os:Vw) (l:List D):Option R:=
 iA (fun v ws=>match ws,frz os v with |[],(.sl e nb els,ws')=>K (.sl e nb els) ws' |_,_=>none) te lo hi false os l
def oC (off:Nat):List D→Option R
 |[.ela b i o]=>K (.ela b i (o+off)) []
 |[.ptr id o]=>K (.ptr id (o+off)) []
 |[.rp cs o]=>K (.rp cs (o+off)) []
 |_=>none
def wW (k:Vk) (off:Nat):List D→Option R
 |[.agg cs]=>fM K k off cs
 |_=>none
def qC:List D→Option R
 |[.str s,.int _ i]=>if 0≤i∧i<s.size then K (.int .u8 (s.get! i.toNat).toNat) []else none
 |_=>none
def wX (k:Vk) (n:Nat):List D→Option R
 |[.agg cs,.int _ i]=>match k.agg,k.ks with
  |false,[s]=>match Nat.ble n cs.length&&cs.all (fits s)with
   |true=>if 0≤i∧i<(n:Int)then K (eta s (cs.getD i.toNat .undef)) []else none
   |false=>none
  |_,_=>none
 |_=>none
def qD (n:Nat):List D→Option R
 |[.ptr id o,.int _ i]=>if 0≤i∧i<(n:Int)then K (.elp id o n i.toNat) []else none
 |[.ela b j o,.int _ i]=>if 0≤i∧i<(n:Int)then K (.elaP b j o n i.toNat) []else none
 |_=>none
def j_ (E:Env) (e:TypeId) (n:Nat) (os:Vw):List D→Option R
 |[x]=>match (frz os x).1 with
  | .rp cs off=>match E.ty e with
   |some ⟨false,[s]⟩=>match pureD (.rp cs off)&&Nat.ble (off+n) cs.length&&((cs.drop off).take n).all (fits s)with
    |true=>K (.sl e false ((cs.drop off).take n)) (frz os x).2
    |false=>none
   |_=>none
  |_=>none
 |_=>none
def mF:List D→Option R
 |[.ptr id o]=>K (.ptr id o) []
 |[.rp cs o]=>K (.rp cs o) []
 |_=>none
def mG (E:Env) (e:TypeId) (os:Vw):List D→Option R
 |[x]=>match h_ os x with
  |some (e',l)=>match E.ty e with
   |some ⟨false,[.int .u8]⟩=>if e'=e then K (.str ⟨(l.map fun d=>UInt8.ofNat d.i.toNat).toArray⟩) []else none
   |_=>none
  |none=>none
 |_=>none
def qE (e:TypeId):List D→Option R
 |[x,.int _ i]=>match tH x,ib x with
  |some e',some n=>if e=e' then
    if 0≤i∧i<n then K (.ela x i.toNat 0) []else none
   else none
  |_,_=>none
 |_=>none
def dQ (E:Env) (os:Vw) (e:TypeId):D→Option (List D)
 | .str b=>match E.ty e with
  |some ⟨false,[.int .u8]⟩=>some (b.data.toList.map fun (c:UInt8)=>D.int .u8 c.toNat)
  |_=>none
 |x=>match h_ os x with
  |some (e',l)=>if e=e' then some l else none
  |none=>none
def gt (E:Env) (site:Nat) (e:TypeId) (bytes:Nat) (os:Vw):List D→Option R
 |[s,x]=>
  match dQ E os e x with
  |none=>none
  |some xs=>
   match s with
   | .own _ id _=>match os id with
    | .arr e' nb l=>if e=e' then
      if (l.length+xs.length)*bytes≤140737488355328 then K (.own e site (l.length+xs.length)) [(id,.gone),(site,.arr e (xs.isEmpty&&nb) (l++xs))]else none
     else none
    |_=>none
   | .zs e' nb=>if e=e' then
     if xs.length*bytes≤140737488355328 then K (.own e site xs.length) [(site,.arr e (xs.isEmpty&&nb) xs)]else none
    else none
   | .ownv _ id off len=>match os id with
    | .arr e' nb l=>if e=e' then
      if off+len+xs.length≤l.length then K (.ownv e id off (len+xs.length)) [(id,.arr e nb (l.take (off+len)++(xs++l.drop (off+len+xs.length))))]else none
     else none
    |_=>none
   |_=>none
 |_=>none
def qF (E:Env) (e:TypeId) (os:Vw):List D→Option R
 |[d,x]=>
  match dQ E os e x with
  |none=>none
  |some xs=>
   match d with
   | .own _ id _=>match os id with
    | .arr e' nb l=>if e=e' then K (.int .i64 (min xs.length l.length:Nat)) [(id,.arr e nb (xs.take l.length++l.drop (min xs.length l.length)))]else none
    |_=>none
   | .ownv _ id off len=>match os id with
    | .arr e' nb l=>if e=e' then K (.int .i64 (min xs.length len:Nat)) [(id,.arr e nb (l.take off++(xs.take len++l.drop (off+min xs.length len))))]else none
    |_=>none
   |_=>none
 |_=>none
def rK (e:TypeId) (zero:D) (os:Vw):List D→Option R
 |[.own _ id _]=>match os id with
  | .arr e' nb l=>if e=e' then K (.tup []) [(id,.arr e nb (List.replicate l.length zero))]else none
  |_=>none
 |[.ownv _ id off len]=>match os id with
  | .arr e' nb l=>if e=e' then K (.tup []) [(id,.arr e nb (l.take off++(List.replicate len zero++l.drop (off+len))))]else none
  |_=>none
 |_=>none
def bG (os:Vw) (a:Am) (d:D):Option D:=
 match a with
 | .p=>match pureD (frz os d).1 with |true=>some (frz os d).1 |false=>none
 | .g e=>match d with
  | .own _ id _=>match os id with
   | .arr e' nb els=>if e=e' then some (.ov e nb els)else none
   |_=>none
  | .zs e' nb=>if e=e' then some (.ov e nb [])else none
  |_=>none
 | .m e=>match d with
  | .own _ id _=>match os id with
   | .arr e' nb els=>if e=e' then some (.ov e nb els)else none
   |_=>none
  |_=>none
 | .v ks=>match d with
  | .ptr id off=>match os id with
   | .var cs=>if off=0∧fitsL ks cs=true then some (.pv cs)else none
   |_=>none
  |_=>none
def ne (os:Vw):List Am→List D→Option (List D)
 |[],[]=>some []
 |a::as,d::ds=>match bG os a d with
  |some x=>match ne os as ds with
   |some l=>some (x::l)
   |none=>none
  |none=>none
 |_,_=>none
def a_:Am→D→Option Nat
 | .g _,.own _ id _=>some id
 | .m _,.own _ id _=>some id
 | .v _,.ptr id _=>some id
 |_,_=>none
def cN:List Am→List D→List Nat
 |a::as,d::ds=>match a_ a d with |some id=>id::cN as ds |none=>cN as ds
 |_,_=>[]
def cO:List Am→List D→Wr
 | .g _::as,.own _ id _::ds=>(id,.gone)::cO as ds
 |_::as,_::ds=>cO as ds
 |_,_=>[]
def bO (os:Vw):List Am→List D→Wr
 | .p::as,d::ds=>(frz os d).2++bO os as ds
 |_::as,_::ds=>bO os as ds
 |_,_=>[]
def mH:List Am→List D→List Nat
 | .p::as,d::ds=>refsD d++mH as ds
 |_::as,_::ds=>mH as ds
 |_,_=>[]
def aU (rs:List D):Nat→List Am→List D→Wr
 |n,.m e::as,.own _ id _::ds=>(id,.arr e (rs.getD n .undef).nb (rs.getD n .undef).els)::aU rs (n+1) as ds
 |n,.v ks::as,.ptr id _::ds=>(id,.var (eT ks (rs.getD n .undef).cs 0))::aU rs (n+1) as ds
 |n,.p::as,_::ds=>aU rs n as ds
 |n,.g _::as,_::ds=>aU rs n as ds
 |_,_,_=>[]
def Sk.data:Sk→Bool | .fn=>false | .Gu _=>false | .El _=>false |_=>true
def telling (ty:TypeId→Option Vk):Sk→Bool
 | .sl e=>match ty e with |some k=>k.ks.all Sk.data |none=>false
 |_=>true
def Sk.gU:Sk→Bool | .sl _=>false | .El _=>false |_=>true
def gU (E:Env):Rm→Bool
 | .p k=>k.ks.all Sk.gU
 | .o e=>match E.ty e with |some k=>k.ks.all Sk.gU |none=>false
def nf (E:Env):Am→Bool
 | .m e=>match E.ty e with |some k=>k.ks.all Sk.gU |none=>false
 | .v ks=>ks.all Sk.gU
 |_=>true
def qi (E:Env) (sg:zy):Bool:=sg.rm.all (gU E)&&sg.am.all (nf E)
def aM (rs:List D):Nat→List Rm→List Nat→List D×Wr
 |n,.p k::rm,_::ss=>let q:=aM rs (n+1) rm ss;(etaV k (rs.getD n .undef) 0::q.1,q.2)
 |n,.o e::rm,s::ss=>let q:=aM rs (n+1) rm ss;(.own e s (rs.getD n .undef).els.length::q.1,(s,.arr e (rs.getD n .undef).nb (rs.getD n .undef).els)::q.2)
 |_,_,_=>([],[])
def tI:List D→D
 |[d]=>d
 |ds=> .tup ds
def ng (E:Env) (a8:List Nat) (os:Vw):List D→Option R
 | .fn g caps::args=>
  match E.sig g with
  |none=>none
  |some sg=>
   match ne os sg.am (args++caps)with
   |none=>none
   |some l=>
    match nodupB (cN sg.am (args++caps))&&apart (mH sg.am (args++caps)) (cN sg.am (args++caps))&&Nat.beq a8.length sg.rm.length&&nodupB a8 with
    |true=>(E.call g l).bind fun rs=>
     K (tI (aM rs 0 sg.rm a8).1) ((match qi E sg with |true=>[] |false=>bO os sg.am (args++caps))++(cO sg.am (args++caps)++((aM rs 0 sg.rm a8).2++aU rs sg.rm.length sg.am (args++caps))))
    |false=>none
 |_=>none
def jw:List D→Option (List Nat)
 |[]=>some []
 | .ptr id 0::ds=>match jw ds with |some l=>some (id::l) |none=>none
 |_=>none
def tJ (f:FuncId) (vals:List D):Option R:=
 match jw vals with
 |some ids=>K (.fnr f ids) []
 |none=>none
def lC (os:Vw) (e:TypeId):D→Option (Bool×List D×Wr)
 | .own e' id _=>match os id with
  | .arr e2 nb els=>if e'=e∧e2=e then some (nb,els,[(id,.gone)])else none
  |_=>none
 | .zs e' nb=>if e'=e then some (nb,[],[])else none
 |_=>none
def jx (E:Env) (s row:Nat) (os:Vw):List D→Option R
 |[.fnr g [o,a],x]=>match E.wty g,os o,os a with
  |some e,.var [c],.var [.fnr g' [o',a']]=>match decide (g'=g∧o'=o∧a'=a∧o≠a)&&pureD x&&(match c with | .own _ id _=>Nat.beq id row&& !Nat.beq id o&& !Nat.beq id a |_=>true)with
   |true=>match lC os e c with
    |some (nb,els,ws)=>(E.call g [x,.ov e nb els]).bind fun rs=>
     K (.int .i64 ((rs.getD 0 .undef).cell 0).i) (ws++[(s,.arr e (rs.getD 1 .undef).nb (rs.getD 1 .undef).els),(o,.var [.own e s (rs.getD 1 .undef).els.length])])
    |none=>none
   |false=>none
  |_,_,_=>none
 |_=>none
def tK (E:Env) (s row:Nat) (os:Vw):List D→Option R
 |[.yl o,x]=>match E.yld,os o with
  |some (e,f),.var [c]=>match pureD x&&(match c with | .own _ id _=>Nat.beq id row&& !Nat.beq id o |_=>true)with
   |true=>match lC os e c with
    |some (nb,els,ws)=>(f [x,.ov e nb els]).bind fun rs=>
        K (.bool true) (ws++[(s,.arr e (rs.getD 0 .undef).nb (rs.getD 0 .undef).els),(o,.var [.own e s (rs.getD 0 .undef).els.length])])
    |none=>none
   |false=>none
  |_,_=>none
 |_=>none
def wY (site:Nat) (e:TypeId) (zero:D) (bytes:Nat):List D→Option R
 |[.int _ n,.int _ c]=>if 0≤n∧n≤c∧c*bytes≤140737488355328 then K (.own e site n.toNat) [(site,.arr e false (List.replicate n.toNat zero))]else none
 |_=>none
def Gv (mx:Bool) (a b:Int):Int:=match mx with |true=>(if a<b then b else a) |false=>(if b<a then b else a)
def Bp (mx:Bool):List D→Option R
 |[.int k a,.int k' b,.int Ku c]=>if k=k'∧k=Ku then K (.int k (Gv mx (Gv mx a b) c)) []else none
 |[.int k a,.int k' b]=>if k=k' then K (.int k (match mx with |true=>(if a<b then b else a) |false=>(if b<a then b else a))) []else none
 |_=>none
def bL (E:Env) (op:tE) (vals:List D) (os:Vw):Option R:=
 match op with
 | .mv=>match vals with |[x]=>K x [] |_=>none
 | .pick=>tG K vals
 | .alloc site zero=>match vals with |[]=>K (.ptr site 0) [(site,.var zero)] |_=>none
 | .box site=>match vals with
  |[x]=>match (cellsOf x).all cell0 with
   |true=>K (.ptr site 0) [(site,.var (cellsOf x))]
   |false=>none
  |_=>none
 | .Di=>match vals with
  |[x]=>match (cellsOf x).all pure0 with
   |true=>K (.rp (cellsOf x) 0) []
   |false=>none
  |_=>none
 | .build zero parts=>iz K zero parts vals
 | .bp site e=>match E.ty e with
  |some k=>match vals.all fun d=>k.fits (frz os d).1 with
   |true=>K (.own e site vals.length) ((vals.map fun d=>(frz os d).2).flatten++[(site,.arr e false (vals.map fun d=>(frz os d).1))])
   |false=>none
  |none=>none
 | .load k=>fq K E k os vals
 | .store k=>jv K E k os vals
 | .bin op=>ya K op vals
 | .eqv neg k=>yb K neg k vals
 | .ow neg=>mE K neg os vals
 | .not=>match vals with |[.bool b]=>K (.bool (!b)) [] |_=>none
 | .neg=>match vals with |[.int k n]=>K (.int k (k.wrap (0 - n))) [] |_=>none
 | .conv k=>match vals with |[.int _ n]=>K (.int k (k.wrap n)) [] |_=>none
 | .bytes e=>match vals with
  |[.str s]=>match E.ty e with
   |some ⟨false,[.int .u8]⟩=>K (.sl e false (s.data.toList.map fun (c:UInt8)=>D.int .u8 c.toNat)) []
   |_=>none
  |_=>none
 | .slice e lo hi mx=>iA K e lo hi mx os vals
 | .aY off=>oC K off vals
 | .part k off=>wW K k off vals
 | .xY=>qC K vals
 | .Bn k n=>wX K k n vals
 | .aB e=>qE K e vals
 | .zD n=>qD K n vals
 | .fp=>mF K vals
 | .ox e=>mG K E e os vals
 | .ext j=>match vals with
  |[.tup ds]=>match Nat.blt j ds.length with |true=>K (ds.getD j .undef) [] |false=>none
  |_=>none
 | .len=>match vals with
  |[x]=>match ib x with
   |some n=>K (.int .i64 n) []
   |none=>none
  |_=>none
 | .Dh=>match vals with
  |[.str s]=>K (.int .i64 (s.size:Nat)) []
  |_=>none
 | .append site e bytes=>gt K E site e bytes os vals
 | .copy e=>qF K E e os vals
 | .clear e zero=>rK K e zero os vals
 | .call a8=>ng K E a8 os vals
 | .vo f=>match vals.all fun d=>pureD (frz os d).1 with
  |true=>K (.fn f (vals.map fun d=>(frz os d).1)) (vals.map fun d=>(frz os d).2).flatten
  |false=>none
 | .zE site e zero bytes=>wY K site e zero bytes vals
 | .mn=>Bp K false vals
 | .mx=>Bp K true vals
 | .mkMap s k e=>oB K s k e vals
 | .xZ k e z ok=>qz K k e z ok os vals
 | .x_ k e=>qA K k e os vals
 | .kT e n=>j_ K E e n os vals
 | .zF=>wT K os vals
 | .zG k=>wU K k os vals
 | .zH=>wV K os vals
 | .zI f=>tJ K f vals
 | .iX s r=>jx K E s r os vals
 | .oy e lo hi=>nZ K e lo hi os vals
 | .yld s r=>tK K E s r os vals
 | .bad=>none
end eff
def eI:tE→List Nat
 | .alloc s _=>[s]
 | .box s=>[s]
 | .bp s _=>[s]
 | .append s _ _=>[s]
 | .call ss=>ss
 | .zE s _ _ _=>[s]
 | .mkMap s _ _=>[s]
 | .iX s _=>[s]
 | .yld s _=>[s]
 |_=>[]
def EL:tE→List Nat
 | .iX _ r=>[r]
 | .yld _ r=>[r]
 |_=>[]
def Dj:tE→Bool
 | .load _ | .store _ | .ow _ | .slice .. | .append .. | .copy _ | .clear .. | .call _ | .vo _ | .bp .. | .box _ | .ox _ | .xZ .. | .x_ .. | .kT .. | .zF | .zG _ | .zH | .iX .. | .oy .. | .yld .. =>true
 |_=>false
def Dl:tE→List D→Bool
 | .slice _ _ _ false,.own _ _ _::_=>true
 |_,_=>false
def jy (op:tE) (vals:List D):List Nat:=
 match Dj op&& !Dl op vals with
 |true=>vals.flatMap refsD++(eI op++EL op)
 |false=>eI op
def isDead:Obj→Bool | .dead=>true |_=>false
def wrL (os:List Obj):Wr→List Obj
 |[]=>os
 |(i,o)::ws=>wrL (os.set i o) ws
structure DOper where
 dst:Option Nat
 op:tE
 args:List Opd
 after:List Nat
 guard:Option (Nat×Bool)
def putT (ts:List D):Option Nat→D→List D
 |some d,v=>ts.set d v
 |none,_=>ts
abbrev Lg:=List Nat×List Nat
def iB (os:List Obj) (rf:List Nat):Vw:=fun i=>match rf.contains i with |true=>os.getD i .dead |false=> .dead
def Opd.known (b:Bool) (st:St):Opd→St
 | .t n=>⟨st.ts.set n (.bool b),st.os⟩
 | .c _=>st
section run
variable {R:Type}
def zK (E:Env) (o:DOper) (st:St) (K:St→Lg→Option R):Option R:=
 let vals:=o.args.map (Opd.val st.ts)
 let rf:=jy o.op vals
 match (eI o.op).all fun s=>Nat.blt s st.os.length&&isDead (st.os.getD s .gone)with
 |true=>bL (fun v ws=>match ws.all fun p=>rf.contains p.1&& !isDead p.2 with
   |true=>K ⟨putT st.ts o.dst v,wrL st.os ws⟩ (rf,ws.map (·.1))
   |false=>none) E o.op vals (iB st.os rf)
 |false=>none
def qG (o:DOper) (st:St) (K:St→Lg→Option R):Option R:=K ⟨putT st.ts o.dst (.tup []),st.os⟩ ([],[])
def gu (E:Env) (o:DOper) (st:St) (K:St→Lg→Option R):Option R:=
 match o.guard with
 |none=>zK E o st K
 |some (g,rL)=>match st.ts.getD g .undef with
  | .bool b=>match rL with
   |true=>match b with
    |true=>zK E o ⟨st.ts.set g (.bool true),st.os⟩ K
    |false=>qG o ⟨st.ts.set g (.bool false),st.os⟩ K
   |false=>match b with
    |true=>qG o ⟨st.ts.set g (.bool true),st.os⟩ K
    |false=>zK E o ⟨st.ts.set g (.bool false),st.os⟩ K
  | .tup []=>qG o st K
  |_=>none
def opsK (E:Env):List DOper→St→(St→List Lg→Option R)→Option R
 |[],st,K=>K st []
 |o::os,st,K=>gu E o st fun st' r=>opsK E os st' fun G7 lg=>K G7 (r::lg)
def iC (o:DOper):List Nat:=
 (o.args.filterMap fun | .t n=>some n | .c _=>none)++(match o.guard with |some (g,_)=>[g] |none=>[])
def indep (x:DOper) (rx:Lg) (y:DOper) (ry:Lg):Bool:=
 apart x.dst.toList (iC y)&&apart y.dst.toList (iC x)&&apart x.dst.toList y.dst.toList&&apart rx.2 ry.1&&apart ry.2 rx.1
def jz (acc:List Nat):List Nat→Nat
 |[]=>0
 |e::l=>Nat.lor (Nat.lor (Nat.shiftLeft 1 e) (acc.getD e 0)) (jz acc l)
def mI:List DOper→List Nat→List Nat
 |[],acc=>acc
 |o::os,acc=>mI os (acc++[jz acc o.after])
def oD (ops:List DOper) (lg:List Lg):Bool:=
 let an:=mI ops []
 let l:=(ops.zip lg).zipIdx
 l.all fun p=>l.all fun q=> !(Nat.blt q.2 p.2) ||Nat.testBit (an.getD p.2 0) q.2 ||indep q.1.1 q.1.2 p.1.1 p.1.2
inductive Ex where |norm |exit (id:Nat) |ret
inductive CellM where |p (k:Sk) |o (site:Nat) (e:TypeId)
inductive SlotM where |p (k:Vk) |o (site:Nat) (e:TypeId)
inductive ObjM where |a (e:TypeId) |v (cs:List CellM) |m (k e:Vk)
structure Shape where
 keep:List Nat
 slots:List (Nat×SlotM)
 objs:List (Nat×ObjM)
inductive DCode where
 |skip
 |region (draw:Bool) (ops:List DOper)
 |seq (a b:DCode)
 |cond (c:Opd) (a b:DCode)
 |block (id:Nat) (c:DCode)
 |loop (sh:Shape) (c:DCode)
 |exit (id:Nat)
 |ret
 |bad
def takeOwn (os:Vw) (e:TypeId):D→Option (D×List Nat)
 | .own _ id _=>match os id with
  | .arr e' nb l=>if e=e' then some (.ov e nb l,[id])else none
  |_=>none
 | .zs e' nb=>if e=e' then some (.ov e nb [],[])else none
 |_=>none
def packCells (os:Vw):List CellM→List D→Option (List D×List Nat)
 |[],[]=>some ([],[])
 | .p k::ms,d::ds=>match fits k (bT os d).1,packCells os ms ds with
  |true,some (l,n)=>some ((bT os d).1::l,refs0 d++n)
  |_,_=>none
 | .o _ e::ms,d::ds=>match takeOwn os e d,packCells os ms ds with
  |some (x,i),some (l,n)=>some (x::l,i++n)
  |_,_=>none
 |_,_=>none
def eJ (ts:List D) (os:Vw):List (Nat×SlotM)→Option (List D×List Nat)
 |[]=>some ([],[])
 |(j,.p k)::ms=>match k.fits (frz os (ts.getD j .undef)).1,eJ ts os ms with
  |true,some (l,n)=>some ((frz os (ts.getD j .undef)).1::l,refsD (ts.getD j .undef)++n)
  |_,_=>none
 |(j,.o _ e)::ms=>match takeOwn os e (ts.getD j .undef),eJ ts os ms with
  |some (x,i),some (l,n)=>some (x::l,i++n)
  |_,_=>none
def packObjs (os:Vw):List (Nat×ObjM)→Option (List D×List Nat)
 |[]=>some ([],[])
 |(i,.a e)::ms=>match os i,packObjs os ms with
  | .arr e' nb els,some (l,n)=>if e=e' then some (.ov e nb els::l,i::n)else none
  |_,_=>none
 |(i,.m k e)::ms=>match os i,packObjs os ms with
  | .mp k' e' ks vs,some (l,n)=>if k'=k∧e'=e then some (.mpv ks vs::l,i::n)else none
  |_,_=>none
 |(i,.v cm)::ms=>match os i with
  | .var cs=>match packCells os cm cs,packObjs os ms with
   |some (x,n1),some (l,n)=>some (.pv x::l,i::(n1++n))
   |_,_=>none
  |_=>none
def pack (sh:Shape) (st:St):Option (List D):=
 let os:Vw:=fun i=>st.os.getD i .dead
 match eJ st.ts os sh.slots,packObjs os sh.objs with
 |some (l1,n1),some (l2,n2)=>match nodupB (n1++n2)with
  |true=>some (l1++l2)
  |false=>none
 |_,_=>none
def openCells (v:D):Nat→List CellM→List D×Wr
 |_,[]=>([],[])
 |j,.p k::ms=>let q:=openCells v (j+1) ms;(eta k (v.cs.getD j .undef)::q.1,q.2)
 |j,.o s e::ms=>let q:=openCells v (j+1) ms;(.own e s (v.cs.getD j .undef).els.length::q.1,(s,.arr e (v.cs.getD j .undef).nb (v.cs.getD j .undef).els)::q.2)
def openSlots (vs:List D):Nat→List (Nat×SlotM)→List (Nat×D)×Wr
 |_,[]=>([],[])
 |n,(j,.p k)::ms=>let q:=openSlots vs (n+1) ms;((j,etaV k (vs.getD n .undef) 0)::q.1,q.2)
 |n,(j,.o s e)::ms=>let q:=openSlots vs (n+1) ms;((j,.own e s (vs.getD n .undef).els.length)::q.1,(s,.arr e (vs.getD n .undef).nb (vs.getD n .undef).els)::q.2)
def openObjs (vs:List D):Nat→List (Nat×ObjM)→Wr
 |_,[]=>[]
 |n,(i,.a e)::ms=>(i,.arr e (vs.getD n .undef).nb (vs.getD n .undef).els)::openObjs vs (n+1) ms
 |n,(i,.m k e)::ms=>(i,.mp k e (vs.getD n .undef).mks (vs.getD n .undef).mvs)::openObjs vs (n+1) ms
 |n,(i,.v cm)::ms=>let q:=openCells (vs.getD n .undef) 0 cm;(i,.var q.1)::(q.2++openObjs vs (n+1) ms)
def keepT (ids keep:List Nat):List D→Nat→List D
 |[],_=>[]
 |d::ds,j=>(match keep.contains j&&(refsD d).all (fun i=>ids.contains i)with |true=>d |false=> .undef)::keepT ids keep ds (j+1)
def setTs (ts:List D):List (Nat×D)→List D
 |[]=>ts
 |(j,d)::l=>setTs (ts.set j d) l
def unpack (sh:Shape) (st:St) (vs:List D):St:=
 let q:=openSlots vs 0 sh.slots
 ⟨setTs (keepT (sh.objs.map (·.1)) sh.keep st.ts 0) q.1,wrL (List.replicate st.os.length .dead) (q.2++openObjs vs sh.slots.length sh.objs)⟩
def iter:Nat→(List D→(List D→Option R)→Option R)→List D→Option R
 |0,_,_=>none
 |k+1,F,vs=>F vs (iter k F)
def codeK (E:Env) (k:Nat):DCode→St→(Ex→St→Option R)→Option R
 | .skip,st,K=>K .norm st
 | .region draw ops,st,K=>opsK E ops st fun st' lg=>match draw with
  |false=>K .norm st'
  |true=>match oD ops lg with |true=>K .norm st' |false=>none
 | .seq a b,st,K=>codeK E k a st fun ex st'=>match ex with
  | .norm=>codeK E k b st' K
  |ex=>K ex st'
 | .cond c a b,st,K=>match c.val st.ts with
  | .bool t=>match t with |true=>codeK E k a (c.known true st) K |false=>codeK E k b (c.known false st) K
  |_=>none
 | .block id c,st,K=>codeK E k c st fun ex st'=>match ex with
  | .exit id'=>match Nat.beq id' id with |true=>K .norm st' |false=>K (.exit id') st'
  |ex=>K ex st'
 | .loop sh c,st,K=>match pack sh st with
  |some vs=>iter k (fun vs again=>codeK E k c (unpack sh st vs) fun ex st'=>match ex with
   | .norm=>match pack sh st' with |some vs'=>again vs' |none=>none
   |ex=>K ex st') vs
  |none=>none
 | .exit id,st,K=>K (.exit id) st
 | .ret,st,K=>K .ret st
 | .bad,_,_=>none
end run
inductive ResM where |t (n:Nat) |c (n:Nat)
structure DFun where
 nt:Nat
 nobj:Nat
 am:List Am
 rm:List Rm
 res:List ResM
 body:DCode
def enterArgs:Nat→List Am→List D→Option (List D×Wr)
 |_,[],[]=>some ([],[])
 |i,.p::as,d::ds=>match pureD d,enterArgs (i+1) as ds with
  |true,some (l,w)=>some (d::l,w)
  |_,_=>none
 |i,.g e::as,.ov e' nb els::ds=>match enterArgs (i+1) as ds with
  |some (l,w)=>if e=e' then some (.own e i els.length::l,(i,.arr e nb els)::w)else none
  |none=>none
 |i,.m e::as,.ov e' nb els::ds=>match enterArgs (i+1) as ds with
  |some (l,w)=>if e=e' then some (.own e i els.length::l,(i,.arr e nb els)::w)else none
  |none=>none
 |i,.v ks::as,.pv cs::ds=>match fitsL ks cs,enterArgs (i+1) as ds with
  |true,some (l,w)=>some (.ptr i 0::l,(i,.var cs)::w)
  |_,_=>none
 |_,_,_=>none
def enter (f:DFun) (args:List D):Option St:=
 match enterArgs 0 f.am args with
 |some (l,w)=>some ⟨l++List.replicate (f.nt - l.length) (.tup []),wrL (List.replicate f.nobj .dead) w⟩
 |none=>none
def resVal (st:St) (k:Rm):ResM→Option D
 | .t n=>some (st.ts.getD n .undef)
 | .c n=>match st.ts.getD n .undef,k with
  | .ptr id 0,k=>match st.os.getD id .dead with
   | .var cs=>match k with
    | .p ⟨true,_⟩=>some (.agg cs)
    |_=>match cs with |[d]=>some d |_=>none
   |_=>none
  |_,_=>none
def finRes (st:St):List Rm→List ResM→Option (List D×List Nat×List Nat)
 |[],[]=>some ([],[],[])
 |m::ms,r::rs=>match resVal st m r,finRes st ms rs with
  |some d,some (l,n,fz)=>match m with
   | .p k=>match k.fits (frz (fun i=>st.os.getD i .dead) d).1 with
    |true=>some ((frz (fun i=>st.os.getD i .dead) d).1::l,n,refsD d++fz)
    |false=>none
   | .o e=>match d with
    | .ownv _ id off len=>match off,st.os.getD id .dead with
     |0,.arr e' nb els=>if e=e' then some (.ov e nb (els.take len)::l,id::n,fz)else none
     |_,_=>none
    |d=>match takeOwn (fun i=>st.os.getD i .dead) e d with
     |some (x,i)=>some (x::l,i++n,fz)
     |none=>none
  |_,_=>none
 |_,_=>none
def finBack (st:St):Nat→List Am→Option (List D×List Nat)
 |_,[]=>some ([],[])
 |i,.m e::as=>match st.os.getD i .dead,finBack st (i+1) as with
  | .arr e' nb els,some (l,n)=>if e=e' then some (.ov e nb els::l,i::n)else none
  |_,_=>none
 |i,.v ks::as=>match st.os.getD i .dead,finBack st (i+1) as with
  | .var cs,some (l,n)=>match fitsL ks cs with |true=>some (.pv cs::l,i::n) |false=>none
  |_,_=>none
 |i,_::as=>finBack st (i+1) as
def finish (f:DFun) (st:St):Option (List D):=
 match finRes st f.rm f.res,finBack st 0 f.am with
 |some (l,n,fz),some (l',n')=>match nodupB (n++n')&&apart fz (n++n')with
  |true=>some (l++l')
  |false=>none
 |_,_=>none
def dbody (f:DFun) (E:Env) (k:Nat) (args:List D):Option (List D):=
 match enter f args with
 |some st=>codeK E k f.body st fun ex st'=>match ex with
  | .exit _=>none
  |_=>finish f st'
 |none=>none
def enterW (f:DFun) (g:FuncId) (e:TypeId):List D→Option St
 |[x,.ov e' nb els]=>match pureD x&&decide (e'=e)with
  |true=>some ⟨x:: .ptr 1 0:: .ptr 2 0::List.replicate (f.nt - 3) (.tup []),wrL (List.replicate f.nobj .dead) [(1,.var [.own e 3 els.length]),(2,.var [.fnr g [1,2]]),(3,.arr e nb els)]⟩
  |false=>none
 |_=>none
def finishW (g:FuncId) (e:TypeId) (n:Nat) (st:St):Option (List D):=
 match st.ts.getD n .undef,st.os.getD 1 .dead,st.os.getD 2 .dead with
 | .int .i64 r,.var [c],.var [.fnr g' [1,2]]=>match decide (g'=g),lC (fun i=>st.os.getD i .dead) e c with
  |true,some (nb,els,_)=>some [.int .i64 r,.ov e nb els]
  |_,_=>none
 |_,_,_=>none
def dbodyW (f:DFun) (g:FuncId) (e:TypeId) (n:Nat) (E:Env) (k:Nat) (args:List D):Option (List D):=
 match enterW f g e args with
 |some st=>codeK E k f.body st fun ex st'=>match ex with
  | .exit _=>none
  |_=>finishW g e n st'
 |none=>none
structure RBody where
 nt:Nat
 nobj:Nat
 p:Nat
 o:Nat
 assign:DCode
 body:DCode
def rowSt (e:TypeId) (nobj:Nat) (ts:List D) (nb:Bool) (els:List D):St:=
 ⟨ts,wrL (List.replicate nobj .dead) [(1,.var [.own e 3 els.length]),(3,.arr e nb els)]⟩
def finishR (e:TypeId) (st:St):Option (List D):=
 match st.os.getD 1 .dead with
 | .var [c]=>match lC (fun i=>st.os.getD i .dead) e c with
  |some (nb,els,_)=>some [.ov e nb els]
  |none=>none
 |_=>none
def droundK (b:RBody) (e:TypeId) (E:Env) (k:Nat) (st:St):Option (List D):=
 codeK E k b.assign st fun ex st1=>match ex with
  | .norm=>codeK E k b.body st1 fun ex st2=>match ex with
   | .norm=>finishR e st2
   |_=>none
  |_=>none
def dround (b:RBody) (e:TypeId) (E:Env) (k:Nat):List D→Option (List D)
 |[x,.ov e' nb els]=>match pureD x&&decide (e'=e)with
  |true=>droundK b e E k (rowSt e b.nobj (((List.replicate b.nt .undef).set b.o (.ptr 1 0)).set b.p x) nb els)
  |false=>none
 |_=>none
def diter (f:DFun) (e:TypeId) (E:Env) (k:Nat) (caps:List D) (nb:Bool) (els:List D):Option (List D):=
 match caps.all pureD with
 |true=>codeK E k f.body (rowSt e f.nobj (.yl 1::caps++List.replicate (f.nt - (caps.length+1)) (.tup [])) nb els) fun ex st'=>match ex with
  | .exit _=>none
  |_=>finishR e st'
 |false=>none
structure RfFun where
 nt:Nat
 nobj:Nat
 am:List Am
 rm:List Rm
 res:List ResM
 pre:List DCode
 mid:DCode
 fo:Nat
 gi:FuncId
 fi:DFun
 e:TypeId
 bd:RBody
 site:Nat
 post:DCode
def RfFun.d (f:RfFun):DFun:=⟨f.nt,f.nobj,f.am,f.rm,f.res,.skip⟩
def rfEnd (f:RfFun) (ex:Ex) (st:St):Option (List D):=match ex with
 | .exit _=>none
 |_=>finish f.d st
def rfGo (f:RfFun) (E:Env) (k:Nat) (st:St):Option (List D):=
 match st.ts.getD f.fo .undef,st.ts.getD f.bd.o .undef with
 | .fn g caps,.ptr oid 0=>match decide (g=f.gi),st.os.getD oid .dead,st.os.getD f.site .gone with
  |true,.var [c],.dead=>match lC (fun i=>st.os.getD i .dead) f.e c with
   |some (nb,els,ws)=>match diter f.fi f.e {E with yld:=some (f.e,dround f.bd f.e E k)} k caps nb els with
    |some [.ov _ nb' els']=>codeK E k f.post ⟨st.ts,wrL st.os (ws++[(f.site,.arr f.e nb' els'),(oid,.var [.own f.e f.site els'.length])])⟩ (rfEnd f)
    |_=>none
   |none=>none
  |_,_,_=>none
 |_,_=>none
def rfPre (f:RfFun) (E:Env) (k:Nat):List DCode→St→Option (List D)
 |[],st=>codeK E k f.mid st fun ex st1=>match ex with
  | .norm=>rfGo f E k st1
  |_=>none
 |d::ds,st=>codeK E k d st fun ex st1=>match ex with
  | .norm=>rfPre f E k ds st1
  |ex=>rfEnd f ex st1
def drf (f:RfFun) (E:Env) (k:Nat) (args:List D):Option (List D):=
 match enter f.d args with
 |some st=>rfPre f E k f.pre st
 |none=>none
inductive Entry where
 |code (f:DFun)
 |spec (s:zy) (f:List D→Option (List D))
 |wr (f:DFun) (e:TypeId) (n:Nat)
 |rf (f:RfFun)
def Entry.sig:Entry→zy
 | .code f=>⟨f.am,f.rm⟩
 | .spec s _=>s
 | .wr _ _ _=>⟨[],[]⟩
 | .rf f=>⟨f.am,f.rm⟩
def Entry.wty:Entry→Option TypeId
 | .wr _ e _=>some e
 |_=>none
def envOf (ty:TypeId→Option Vk) (tab:FuncId→Option Entry) (call:FuncId→List D→Option (List D)):Env:=
 ⟨ty,fun g=>(tab g).map Entry.sig,call,fun g=>(tab g).bind Entry.wty,none⟩
def dcall (ty:TypeId→Option Vk) (tab:FuncId→Option Entry):Nat→FuncId→List D→Option (List D)
 |0,_,_=>none
 |k+1,g,args=>match tab g with
  |some (.code f)=>dbody f (envOf ty tab (dcall ty tab k)) k args
  |some (.spec _ f)=>f args
  |some (.wr f e n)=>dbodyW f g e n (envOf ty tab (dcall ty tab k)) k args
  |some (.rf f)=>drf f (envOf ty tab (dcall ty tab k)) k args
  |none=>none
end
section
def growSpec (e:TypeId) (Lu:Nat):List D→Option (List D)
 |[.ov e' true [],.int .i64 n]=>if e'=e∧0≤n∧n*Lu≤140737488355328 then some [.ov e (decide (n=0)) []]else none
 |_=>none
end
section
def Same (ok:Nat→Prop) (w w':World):Prop:=∀ b,ok b→w'.heap[b]? =w.heap[b]?
theorem Same.cell {ok:Nat→Prop} {w w':World} (h:Same ok w w') {a:Addr} (ha:ok a.block):w'.cell? a=w.cell? a:=World.cell?_of_block (h _ ha)
def d_ (es:Array MapEntry) (clock:Nat):Prop:=(∀ x,x∈es.toList→x.born<clock)∧(es.toList.map (·.born)).Nodup
theorem d_.empty (c:Nat):d_ #[] c:=⟨fun x h=>by simp at h,by simp⟩
theorem d_.push {es:Array MapEntry} {c:Nat} (h:d_ es c) (k v:Value):d_ (es.push ⟨k,v,c⟩) (c+1):=by
 refine⟨fun x hx=> ?_, ?_⟩
 ·simp only[Array.toList_push,List.mem_append,List.mem_singleton]at hx
  rcases hx with hx |rfl
  ·have:=h.1 x hx;omega
  ·show c<c+1;omega
 ·simp only[Array.toList_push,List.map_append,List.map_cons,List.map_nil]
  refine List.nodup_append.2 ⟨h.2,by simp,fun a ha b hb=> ?_⟩
  obtain⟨x,hx,rfl⟩:=List.mem_map.1 ha
  simp only[List.mem_singleton]at hb
  have:=h.1 x hx
  omega
theorem d_.modify {es:Array MapEntry} {c:Nat} (h:d_ es c) (j:Nat) (f:MapEntry→MapEntry) (hf:∀ x,(f x).born=x.born):d_ (es.modify j f) c:=by
 have e:(es.modify j f).toList.map (·.born)=es.toList.map (·.born):=by
  apply List.ext_getElem
  ·simp
  ·intro i h1 h2
   simp only[List.getElem_map,Array.getElem_toList,Array.getElem_modify]
   split
   ·exact hf _
   ·rfl
 refine⟨fun x hx=> ?_,by rw[e];exact h.2⟩
 have:x.born∈es.toList.map (·.born):=by rw[←e];exact List.mem_map_of_mem hx
 obtain⟨y,hy,e2⟩:=List.mem_map.1 this
 have:=h.1 y hy
 omega
inductive RepV (ty:TypeId→Option Vk) (w:World) (ok:Nat→Prop):Value→D→Prop
 |int (k n):RepV ty w ok (.int k n) (.int k n)
 |bool (b):RepV ty w ok (.bool b) (.bool b)
 |str (s):RepV ty w ok (.string s) (.str s)
 |slnil (e):RepV ty w ok (.slice none 0 0) (.sl e true [])
 |sl (e:TypeId) (ad:Addr) (c:Nat) (els:List D) (k:Vk) (cs:Nat→Nat→Value) (hk:ty e=some k) (hsp:c≠0→ad.spot=none) (hc:els.length≤c) (hf:∀ d,d∈els→k.fits d=true) (hok:els≠[]→ok ad.block)
   (hcell:∀ i j,i<els.length→j<k.ks.length→w.cell? ⟨ad.block,ad.off+(i*k.ks.length+j),none⟩=some (cs i j))
   (hrep:∀ i j,i<els.length→j<k.ks.length→RepV ty w ok (cs i j) ((els.getD i .undef).cell j)):
   RepV ty w ok (.slice (some ad) els.length c) (.sl e false els)
 |zsnil (e):RepV ty w ok (.slice none 0 0) (.zs e true)
 |zs (e:TypeId) (ad:Addr) (k:Vk) (hk:ty e=some k) (hsp:(0:Nat)≠0→ad.spot=none):RepV ty w ok (.slice (some ad) 0 0) (.zs e false)
 |agg (cs:Array Value) (ds:List D) (hs:cs.size=ds.length) (hrep:∀ j,j<ds.length→RepV ty w ok (cs.getD j undef) (ds.getD j .undef)):
   RepV ty w ok (.agg cs) (.agg ds)
 |fn (f) (caps:Array Value) (dc:List D) (hs:caps.size=dc.length) (hrep:∀ j,j<dc.length→RepV ty w ok (caps.getD j undef) (dc.getD j .undef)):
   RepV ty w ok (.func (.func f) #[] caps) (.fn f dc)
 |nilfn:RepV ty w ok .nilFunc .nilfn
 |rp (b:Nat) (cs:List D) (off:Nat) (vals:Nat→Value) (hp:∀ d,d∈cs→pure0 d=true) (hok:ok b) (hcell:∀ j,j<cs.length→w.cell? ⟨b,j,none⟩=some (vals j))
   (hrep:∀ j,j<cs.length→RepV ty w ok (vals j) (cs.getD j .undef)):
   RepV ty w ok (.pointer (some ⟨b,off,none⟩)) (.rp cs off)
 |mpl (b:Nat) (es:Array MapEntry) (clock) (ks vs:List D) (hok:ok b) (hh:w.heap[b]? =some (.map es clock)) (hs:es.size=ks.length) (hv:vs.length=ks.length) (hbo:d_ es clock)
   (hk:∀ i (h:i<es.size),RepV ty w ok es[i].key (ks.getD i .undef)) (hvv:∀ i (h:i<es.size),RepV ty w ok es[i].val (vs.getD i .undef)):
   RepV ty w ok (.map (some b)) (.mpl ks vs)
theorem RepV.mono {ty w ok v d} (h:RepV ty w ok v d) {w':World} {qj:Nat→Prop} (hok:∀ b,ok b→qj b) (hs:Same ok w w'):RepV ty w' qj v d:=by
 induction h with
 |int k n=>exact .int k n
 |bool b=>exact .bool b
 |str s=>exact .str s
 |slnil e=>exact .slnil e
 |sl e ad c els k cs hk hsp hc hf hb hcell hrep ih=>
  refine .sl e ad c els k cs hk hsp hc hf (fun h=>hok _ (hb h)) (fun i j hi hj=> ?_) ih
  have h1:ok ad.block:=hb (by intro h;subst h;simp at hi)
  rw[hs.cell (a:=⟨ad.block,_,none⟩) h1]
  exact hcell i j hi hj
 |zsnil e=>exact .zsnil e
 |zs e ad k hk hsp=>exact .zs e ad k hk hsp
 |agg cs ds hsz hrep ih=>exact .agg cs ds hsz ih
 |fn f caps dc hsz hrep ih=>exact .fn f caps dc hsz ih
 |nilfn=>exact .nilfn
 |rp b cs off vals hp hb hcell hrep ih=>
  refine .rp b cs off vals hp (hok _ hb) (fun j hj=> ?_) ih
  rw[hs.cell (a:=⟨b,j,none⟩) hb]
  exact hcell j hj
 |mpl b es clock ks vs hb hh hsz hv hbo hk hvv ih1 ih2=>exact .mpl b es clock ks vs (hok _ hb) (by rw[hs b hb];exact hh) hsz hv hbo ih1 ih2
abbrev Gh:=Nat→Value×Option Nat
inductive Kv where
 |no
 |row (e:TypeId) (n:Nat)
 |var (n:Nat)
 |mp
def oSh:Obj→Kv
 | .arr e _ els=> .row e els.length
 | .fro e _ els=> .row e els.length
 | .var cs=> .var cs.length
 | .frv cs=> .var cs.length
 | .mp _ _ _ _=> .mp
 |_=> .no
def live:Obj→Bool
 | .arr .. =>true
 | .var _=>true
 | .mp _ _ _ _=>true
 |_=>false
structure Cx where
 ty:TypeId→Option Vk
 X:Nat→Prop
 w0:World
 M0:Nat→Prop
 yl:Nat×Value
def LB (os:List Obj) (G:Gh) (b:Nat):Prop:=∃ id o,os[id]? =some o∧live o=true∧(G id).2=some b
def okB (C:Cx) (os:List Obj) (G:Gh) (w:World) (b:Nat):Prop:=b<w.heap.size∧ ¬LB os G b∧ ¬C.X b
section rel
variable (C:Cx) (os:List Obj) (G:Gh) (w:World)
def oAt (id:Nat):Kv:=oSh (os.getD id .dead)
def ElaAt (v:Value) (i off:Nat):D→Prop
 | .sl e nb els=>i<els.length∧∃ ad c k,C.ty e=some k∧RepV C.ty w (okB C os G w) (.slice (some ad) els.length c) (.sl e nb els)∧v= .pointer (some ⟨ad.block,ad.off+(i*k.ks.length+off),none⟩)
 | .own e' id n=>match oAt os id with
  | .row e m=>e'=e∧n=m∧i<m∧∃ ad cap k,C.ty e=some k∧(G id).1= .slice (some ad) m cap∧v= .pointer (some ⟨ad.block,ad.off+(i*k.ks.length+off),none⟩)
  |_=>True
 | .ownv e' id o len=>match oAt os id with
  | .row e m=>e'=e∧o+len≤m∧i<len∧∃ ad cap k,C.ty e=some k∧(G id).1= .slice (some ad) m cap∧v= .pointer (some ⟨ad.block,ad.off+((o+i)*k.ks.length+off),none⟩)
  |_=>True
 |_=>False
def oE (v:Value) (n:Nat):Prop:=∃ a c,v= .slice a n c∧n≤c∧(a=none→n=0)∧∀ x,a=some x→c≠0→x.spot=none
def Bq (v:Value):Prop:=∃ a:Addr,v= .pointer (some a)∧a.spot=none
def RepT0 (v:Value):D→Prop
 | .undef=>True
 | .own e' id n=>oE v n∧match oAt os id with
  | .row e m=>e'=e∧n=m∧v=(G id).1
  |_=>True
 | .ownv e' id off len=>oE v len∧match oAt os id with
  | .row e m=>e'=e∧off+len≤m∧∃ a c k,C.ty e=some k∧(G id).1= .slice a m c∧∃ a':Option Addr,v= .slice a' len (c - off)∧a'.isNone=a.isNone∧(∀ x,a'=some x→c - off≠0→x.spot=none)∧(off<c→a'=a.map (fun x=>⟨x.block,x.off+off*k.ks.length,none⟩))
  |_=>True
 | .ptr id off=>Bq v∧match oAt os id with
  | .var _=>∃ g,(G id).1= .pointer (some ⟨g,0,none⟩)∧v= .pointer (some ⟨g,off,none⟩)
  |_=>True
 | .elp id lo n i=>i<n∧(Bq v∧match oAt os id with
  | .var _=>∃ g,(G id).1= .pointer (some ⟨g,0,none⟩)∧v= .pointer (some ⟨g,lo+i,none⟩)
  |_=>True)
 | .ela b i off=>Bq v∧ElaAt C os G w v i off b
 | .elaP b i lo n j=>j<n∧(Bq v∧ElaAt C os G w v i (lo+j) b)
 | .mo id=>(∃ b,v= .map b)∧match oAt os id with
  | .mp=>v=(G id).1
  |_=>True
 | .fnr f ids=>∃ caps:Array Value,v= .func (.func f) #[] caps∧caps.size=ids.length∧∀ j,j<ids.length→match oAt os (ids.getD j 0)with
  | .var _=>caps.getD j undef=(G (ids.getD j 0)).1
  |_=>True
 | .yl id=>v= .func (.yield C.yl.1) #[] #[]∧match oAt os id with
  | .var _=>(G id).1=C.yl.2
  |_=>True
 | .agg _=>False
 | .tup _=>False
 | .ov _ _ _=>False
 | .pv _=>False
 | .mpv _ _=>False
 |d=>RepV C.ty w (okB C os G w) v d
def RepT1 (v:Value):D→Prop
 | .agg ds=>∃ cs:Array Value,v= .agg cs∧cs.size=ds.length∧∀ j,j<ds.length→RepT0 C os G w (cs.getD j undef) (ds.getD j .undef)
 |d=>RepT0 C os G w v d
def RepT (v:Value):D→Prop
 | .tup ds=>∃ vs:Array Value,v= .tuple vs∧vs.size=ds.length∧∀ j,j<ds.length→RepT1 C os G w (vs.getD j undef) (ds.getD j .undef)
 |d=>RepT1 C os G w v d
def Dm (sz:Nat) (blk:Option Nat) (v:Value) (n:Nat) (nb:Bool) (xs:List Value):Prop:=
 xs.length=n*sz∧
 ((blk=none∧n=0∧∃ a:Option Addr,v= .slice a 0 0∧nb=a.isNone∧∀ x,a=some x→(0:Nat)≠0→x.spot=none)∨
  (nb=false∧∃ g cap cur t,blk=some g∧v= .slice (some ⟨g,0,none⟩) n cap∧w.heap[g]? =some (.cells cur t (0,0))∧n≤cap∧cap≤maxLen∧cur.size=cap*sz∧xs=cur.toList.take (n*sz)))
def ObjRel (id:Nat):Obj→Prop
 | .dead=>True
 | .gone=>True
 | .arr e nb els=>∃ k xs,C.ty e=some k∧Dm w k.ks.length (G id).2 (G id).1 els.length nb xs∧(∀ d,d∈els→k.fits d=true)∧
   ∀ i j,i<els.length→j<k.ks.length→RepV C.ty w (okB C os G w) (xs.getD (i*k.ks.length+j) undef) ((els.getD i .undef).cell j)
 | .fro e nb els=>RepV C.ty w (okB C os G w) (G id).1 (.sl e nb els)
 | .var cs=>∃ g cells t,G id=(.pointer (some ⟨g,0,none⟩),some g)∧w.heap[g]? =some (.cells cells t (0,0))∧cells.size=cs.length∧
   ∀ j,j<cs.length→RepT0 C os G w (cells.getD j undef) (cs.getD j .undef)∧cell0 (cs.getD j .undef)=true
 | .frv cs=>RepV C.ty w (okB C os G w) (G id).1 (.rp cs 0)
 | .mp k e ks vs=>∃ g es clock,G id=(.map (some g),some g)∧w.heap[g]? =some (.map es clock)∧es.size=ks.length∧vs.length=ks.length∧(∀ d,d∈ks→k.fits d=true)∧(∀ d,d∈vs→e.fits d=true)∧
   (∀ i (h:i<es.size),RepV C.ty w (okB C os G w) es[i].key (ks.getD i .undef)∧RepV C.ty w (okB C os G w) es[i].val (vs.getD i .undef))∧d_ es clock
def refsO:Obj→List Nat
 | .var cs=>refsL cs
 |_=>[]
structure Rel (tm:Array Value) (st:St) (G:Gh) (w:World):Prop where
 tsz:tm.size=st.ts.length
 ts:∀ (j:Nat) (d:D),st.ts[j]? =some d→RepT C st.os G w (tm.getD j undef) d
 os:∀ (id:Nat) (o:Obj),st.os[id]? =some o→ObjRel C st.os G w id o
 inj:∀ (i j:Nat) (oi oj:Obj) (b:Nat),st.os[i]? =some oi→st.os[j]? =some oj→live oi=true→live oj=true→(G i).2=some b→(G j).2=some b→i=j
 inX:∀ b,LB st.os G b→ ¬C.X b∧b<w.heap.size∧(b<C.w0.heap.size→C.M0 b)
 rT:∀ (j:Nat) (d:D),st.ts[j]? =some d→∀ id,id∈refsD d→isDead (st.os.getD id .gone)=false
 rO:∀ (j:Nat) (o:Obj),st.os[j]? =some o→∀ id,id∈refsO o→isDead (st.os.getD id .gone)=false
 tape:w.tape=C.w0.tape
 osw:w.os=C.w0.os
 out:w.output=C.w0.output
 size:C.w0.heap.size≤w.heap.size
 frame:∀ b,b<C.w0.heap.size→ ¬C.M0 b→w.heap[b]? =C.w0.heap[b]?
 xw:∀ b,C.X b→b<C.w0.heap.size∧ ¬C.M0 b
end rel
section mono
variable {C:Cx} {os os':List Obj} {G G':Gh} {w w':World}
theorem ElaAt.mono {v:Value} {i off:Nat} {b:D} (h:ElaAt C os G w v i off b) (hok:∀ b,okB C os G w b→okB C os' G' w' b) (hs:Same (okB C os G w) w w')
  (hid:∀ id,id∈refsb b→(oAt os' id=oAt os id∧G' id=G id)∨oAt os' id= .no):ElaAt C os' G' w' v i off b:=by
 cases b with
 |sl e nb els=>
  obtain⟨h1,ad,c,k,h2,h3,h4⟩:=h
  exact⟨h1,ad,c,k,h2,h3.mono hok hs,h4⟩
 |own e' id n=>
  rcases hid id (by simp[refsb])with⟨h1,h2⟩ |h1
  ·simp only[ElaAt,h1,h2]at h⊢;exact h
  ·simp only[ElaAt,h1]
 |ownv e' id o len=>
  rcases hid id (by simp[refsb])with⟨h1,h2⟩ |h1
  ·simp only[ElaAt,h1,h2]at h⊢;exact h
  ·simp only[ElaAt,h1]
 |_=>exact h.elim
theorem RepT0.mono {v:Value} {d:D} (h:RepT0 C os G w v d) (hok:∀ b,okB C os G w b→okB C os' G' w' b) (hs:Same (okB C os G w) w w')
  (hid:∀ id,id∈refs0 d→(oAt os' id=oAt os id∧G' id=G id)∨oAt os' id= .no):RepT0 C os' G' w' v d:=by
 cases d with
 |undef=>trivial
 |own e' id n=>
  rcases hid id (by simp[refsb,refs0])with⟨h1,h2⟩ |h1
  ·simp only[RepT0,h1,h2]at h⊢;exact h
  ·refine⟨h.1, ?_⟩;simp only[h1]
 |ownv e' id o len=>
  rcases hid id (by simp[refsb,refs0])with⟨h1,h2⟩ |h1
  ·simp only[RepT0,h1,h2]at h⊢;exact h
  ·refine⟨h.1, ?_⟩;simp only[h1]
 |ptr id off=>
  rcases hid id (by simp[refs0])with⟨h1,h2⟩ |h1
  ·simp only[RepT0,h1,h2]at h⊢;exact h
  ·refine⟨h.1, ?_⟩;simp only[h1]
 |elp id lo n i=>
  rcases hid id (by simp[refs0])with⟨h1,h2⟩ |h1
  ·simp only[RepT0,h1,h2]at h⊢;exact h
  ·refine⟨h.1,h.2.1, ?_⟩;simp only[h1]
 |mo id=>
  rcases hid id (by simp[refsb,refs0])with⟨h1,h2⟩ |h1
  ·simp only[RepT0,h1,h2]at h⊢;exact h
  ·refine⟨h.1, ?_⟩;simp only[h1]
 |fnr f ids=>
  obtain⟨caps,h1,h2,h3⟩:=h
  refine⟨caps,h1,h2,fun j hj=> ?_⟩
  have hm:ids.getD j 0∈refs0 (.fnr f ids):=by
   simp only[refs0,zq1,zq4 hj,Option.getD_some]
   exact List.getElem_mem hj
  rcases hid _ hm with⟨h4,h5⟩ |h4
  ·rw[h4,h5];exact h3 j hj
  ·rw[h4];trivial
 |yl id=>
  rcases hid id (by simp[refs0])with⟨h1,h2⟩ |h1
  ·simp only[RepT0,h1,h2]at h⊢;exact h
  ·refine⟨h.1, ?_⟩;simp only[h1]
 |ela b i off=>exact⟨h.1,ElaAt.mono h.2 hok hs (fun id hi=>hid id hi)⟩
 |elaP b i lo n j=>exact⟨h.1,h.2.1,ElaAt.mono h.2.2 hok hs (fun id hi=>hid id hi)⟩
 |agg _=>exact h.elim
 |tup _=>exact h.elim
 |ov _ _ _=>exact h.elim
 |pv _=>exact h.elim
 |mpv _ _=>exact h.elim
 |_=>simp only[RepT0]at h⊢;exact RepV.mono h hok hs
theorem mem_getD {ds:List D} {j:Nat} (hlt:j<ds.length):ds.getD j .undef∈ds:=by
 rw[zq1,zq4 hlt];simp
theorem RepT1.mono {v:Value} {d:D} (h:RepT1 C os G w v d) (hok:∀ b,okB C os G w b→okB C os' G' w' b) (hs:Same (okB C os G w) w w')
  (hid:∀ id,id∈refs1 d→(oAt os' id=oAt os id∧G' id=G id)∨oAt os' id= .no):RepT1 C os' G' w' v d:=by
 cases d with
 |agg ds=>
  obtain⟨cs,h1,h2,h3⟩:=h
  exact⟨cs,h1,h2,fun j hj=>(h3 j hj).mono hok hs fun id hi=>hid id (List.mem_flatMap.2 ⟨_,mem_getD hj,hi⟩)⟩
 |_=>simp only[RepT1]at h⊢;exact RepT0.mono h hok hs hid
theorem RepT.mono {v:Value} {d:D} (h:RepT C os G w v d) (hok:∀ b,okB C os G w b→okB C os' G' w' b) (hs:Same (okB C os G w) w w')
  (hid:∀ id,id∈refsD d→(oAt os' id=oAt os id∧G' id=G id)∨oAt os' id= .no):RepT C os' G' w' v d:=by
 cases d with
 |tup ds=>
  obtain⟨cs,h1,h2,h3⟩:=h
  exact⟨cs,h1,h2,fun j hj=>(h3 j hj).mono hok hs fun id hi=>hid id (List.mem_flatMap.2 ⟨_,mem_getD hj,hi⟩)⟩
 |_=>simp only[RepT]at h⊢;exact RepT1.mono h hok hs hid
end mono
end
section
section
variable {C:Cx} {tm:Array Value} {st:St} {G:Gh} {w:World}
theorem okB.lt {os:List Obj} {b:Nat} (h:okB C os G w b):b<w.heap.size:=h.1
theorem cR {os:List Obj} {id j:Nat} {o:Obj} (hid:id<os.length):oAt (os.set id o) j=if j=id then oSh o else oAt os j:=by
 unfold oAt
 by_cases h:j=id
 ·subst h;simp[hid]
 ·have h':id≠j:=fun e=>h e.symm
  simp[zq1,List.getElem?_set,h,h']
theorem b7 {os:List Obj} {id j:Nat} {o:Obj} (ho:isDead o=false) (h:isDead (os.getD j .gone)=false):isDead ((os.set id o).getD j .gone)=false:=by
 rw[zq1,List.getElem?_set]
 rw[zq1]at h
 split
 ·split
  ·simpa using ho
  ·simp[isDead]
 ·exact h
theorem Rel.put (h:Rel C tm st G w) {t:Nat} {v:Value} {d:D} (hv:RepT C st.os G w v d)
  (hr:∀ id,id∈refsD d→isDead (st.os.getD id .gone)=false):Rel C (tm.setIfInBounds t v) ⟨st.ts.set t d,st.os⟩ G w where
 tsz:=by simpa using h.tsz
 ts:=by
  intro j e hj
  rw[List.getElem?_set]at hj
  have hsz:=h.tsz
  split at hj
  ·rename_i G8
   subst G8
   split at hj
   ·rename_i hlt
    cases hj
    have:t<tm.size:=by omega
    simpa[zq2,this]using hv
   ·cases hj
  ·rename_i hne
   have:=h.ts j e hj
   simpa[zq2,Array.getElem?_setIfInBounds_ne hne]using this
 os:=h.os
 inj:=h.inj
 inX:=h.inX
 rT:=by
  intro j e hj
  rw[List.getElem?_set]at hj
  split at hj
  ·split at hj
   ·cases hj;exact hr
   ·cases hj
  ·exact h.rT j e hj
 rO:=h.rO
 tape:=h.tape
 osw:=h.osw
 out:=h.out
 size:=h.size
 frame:=h.frame
 xw:=h.xw
theorem Rel.putT (h:Rel C tm st G w) {t:Option Nat} {v:Value} {d:D} (hv:RepT C st.os G w v d)
  (hr:∀ id,id∈refsD d→isDead (st.os.getD id .gone)=false) {df:List Deferred}:
  Rel C ((Act.put ⟨tm,df⟩ t v).tmps) ⟨GD.putT st.ts t d,st.os⟩ G w:=by
 cases t with
 |none=>exact h
 |some t=>exact h.put hv hr
theorem ObjRel.mono {os os':List Obj} {G G':Gh} {w w':World} {id:Nat} {o:Obj} (h:ObjRel C os G w id o)
  (hok:∀ b,okB C os G w b→okB C os' G' w' b) (hs:Same (okB C os G w) w w')
  (hid:∀ i,i∈refsO o→(oAt os' i=oAt os i∧G' i=G i)∨oAt os' i= .no) (hG:G' id=G id)
  (hb:live o=true→∀ b,(G id).2=some b→w'.heap[b]? =w.heap[b]?):ObjRel C os' G' w' id o:=by
 cases o with
 |dead=>trivial
 |gone=>trivial
 |arr e nb els=>
  obtain⟨k,xs,h1,⟨h2,h3⟩,h4,h5⟩:=h
  refine⟨k,xs,h1,⟨h2, ?_⟩,h4,fun i j hi hj=>(h5 i j hi hj).mono hok hs⟩
  rw[hG]
  rcases h3 with h3 |⟨hn,g,cap,cur,t,e1,e2,e3,r⟩
  ·exact .inl h3
  ·refine .inr ⟨hn,g,cap,cur,t,e1,e2, ?_,r⟩
   rw[hb rfl g e1];exact e3
 |fro e nb els=>simp only[ObjRel]at h⊢;rw[hG];exact h.mono hok hs
 |var cs=>
  obtain⟨g,cells,t,h1,h2,h3,h4⟩:=h
  refine⟨g,cells,t,by rw[hG];exact h1, ?_,h3,fun j hj=>⟨(h4 j hj).1.mono hok hs fun i hi=>hid i (List.mem_flatMap.2 ⟨_,mem_getD hj,hi⟩),(h4 j hj).2⟩⟩
  rw[hb rfl g (by rw[h1])];exact h2
 |frv cs=>simp only[ObjRel]at h⊢;rw[hG];exact h.mono hok hs
 |mp k e ks vs=>
  obtain⟨g,es,clock,h1,h2,h3,h4,h5,h6,h7,h8⟩:=h
  exact⟨g,es,clock,by rw[hG];exact h1,by rw[hb rfl g (by rw[h1])];exact h2,h3,h4,h5,h6,fun i hi=>⟨(h7 i hi).1.mono hok hs,(h7 i hi).2.mono hok hs⟩,h8⟩
theorem Rel.Em (h:Rel C tm st G w) {id:Nat} {o o':Obj} {gh:Value×Option Nat} {w':World} (hid:st.os[id]? =some o)
  (lD:o= .dead∨(gh=G id∧(oSh o'=oSh o∨oSh o'= .no))) (hd:isDead o'=false)
  (vg:live o'=true→∀ b,gh.2=some b→(w.heap.size≤b∧b<w'.heap.size)∨(live o=true∧(G id).2=some b))
  (hsame:∀ b,b<w.heap.size→ ¬(live o=true∧(G id).2=some b)→w'.heap[b]? =w.heap[b]?)
  (hsz:w.heap.size≤w'.heap.size) (ht:w'.tape=w.tape) (hos:w'.os=w.os) (hout:w'.output=w.output)
  (ho:ObjRel C (st.os.set id o') (fun j=>if j=id then gh else G j) w' id o')
  (hro:∀ i,i∈refsO o'→isDead ((st.os.set id o').getD i .gone)=false):
  Rel C tm ⟨st.ts,st.os.set id o'⟩ (fun j=>if j=id then gh else G j) w':=by
 have hlt:id<st.os.length:=by
  rcases Nat.lt_or_ge id st.os.length with h' |h'
  ·exact h'
  ·simp[List.getElem?_eq_none h']at hid
 have vq:live o=true→∀ b,(G id).2=some b→LB st.os G b:=fun hl b hb=>⟨id,o,hid,hl,hb⟩
 have hLB:∀ b,LB (st.os.set id o') (fun j=>if j=id then gh else G j) b→LB st.os G b∨(w.heap.size≤b∧b<w'.heap.size):=by
  rintro b ⟨j,oj,hj,hl,hb⟩
  rw[List.getElem?_set]at hj
  by_cases e:id=j
  ·subst e
   simp only[hlt,if_true]at hj hb
   cases hj
   rcases vg hl b hb with h' |⟨h1,h2⟩
   ·exact .inr h'
   ·exact .inl (vq h1 b h2)
  ·have e': ¬j=id:=fun x=>e x.symm
   simp only[e,if_false]at hj
   simp only[e',if_false]at hb
   exact .inl ⟨j,oj,hj,hl,hb⟩
 have hok:∀ b,okB C st.os G w b→okB C (st.os.set id o') (fun j=>if j=id then gh else G j) w' b:=by
  rintro b ⟨h1,h2,h3⟩
  refine⟨by omega,fun hl=> ?_,h3⟩
  rcases hLB b hl with h' |h'
  ·exact h2 h'
  ·omega
 have hS:Same (okB C st.os G w) w w':=fun b hb=>hsame b hb.1 fun ⟨h1,h2⟩=>hb.2.1 (vq h1 b h2)
 have nh:o= .dead→∀ i,isDead (st.os.getD i .gone)=false→i≠id:=by
  rintro rfl i hi rfl
  simp[zq1,hid,isDead]at hi
 have ig:∀ i,isDead (st.os.getD i .gone)=false→(oAt (st.os.set id o') i=oAt st.os i∧(if i=id then gh else G i)=G i)∨oAt (st.os.set id o') i= .no:=by
  intro i hi
  by_cases e:i=id
  ·subst e
   rcases lD with h' |⟨h1,h2⟩
   ·exact absurd rfl (nh h' i hi)
   ·rw[cR hlt]
    simp only[if_true]
    rcases h2 with h2 |h2
    ·left
     refine⟨?_,h1⟩
     rw[h2];simp[oAt,zq1,hid]
    ·exact .inr h2
  ·left
   rw[cR hlt]
   simp[e]
 exact {
  tsz:=h.tsz
  ts:=fun j d hj=>(h.ts j d hj).mono hok hS fun i hi=>ig i (h.rT j d hj i hi)
  os:=by
   intro j oj hj
   rw[List.getElem?_set]at hj
   by_cases e:id=j
   ·subst e
    simp only[hlt,if_true]at hj
    cases hj
    exact ho
   ·simp only[e,if_false]at hj
    have e': ¬j=id:=fun x=>e x.symm
    refine (h.os j oj hj).mono hok hS (fun i hi=>ig i (h.rO j oj hj i hi)) (by simp[e']) ?_
    intro hl b hb
    have Dn:=h.inX b ⟨j,oj,hj,hl,hb⟩
    refine hsame b Dn.2.1 fun ⟨h1,h2⟩=>e (h.inj id j o oj b hid hj h1 hl h2 hb)
  inj:=by
   intro i j oi oj b hi hj hli hlj hbi hbj
   rw[List.getElem?_set]at hi hj
   by_cases ei:id=i<;>by_cases ej:id=j
   ·omega
   ·subst ei
    have G9: ¬j=id:=fun x=>ej x.symm
    simp only[hlt,if_true]at hi hbi
    simp only[ej,if_false,G9]at hj hbj
    cases hi
    have Dn:=h.inX b ⟨j,oj,hj,hlj,hbj⟩
    rcases vg hli b hbi with h' |⟨h1,h2⟩
    ·omega
    ·exact h.inj id j o oj b hid hj h1 hlj h2 hbj
   ·subst ej
    have G_: ¬i=id:=fun x=>ei x.symm
    simp only[hlt,if_true]at hj hbj
    simp only[ei,if_false,G_]at hi hbi
    cases hj
    have Dn:=h.inX b ⟨i,oi,hi,hli,hbi⟩
    rcases vg hlj b hbj with h' |⟨h1,h2⟩
    ·omega
    ·exact h.inj i id oi o b hi hid hli h1 hbi h2
   ·have G_: ¬i=id:=fun x=>ei x.symm
    have G9: ¬j=id:=fun x=>ej x.symm
    simp only[ei,if_false,G_]at hi hbi
    simp only[ej,if_false,G9]at hj hbj
    exact h.inj i j oi oj b hi hj hli hlj hbi hbj
  inX:=by
   intro b hl
   rcases hLB b hl with h' |h'
   ·have:=h.inX b h'
    exact⟨this.1,by omega,this.2.2⟩
   ·refine⟨fun hx=> ?_,h'.2,fun hb=> ?_⟩
    ·have:=h.xw b hx
     have:=h.size
     omega
    ·have:=h.size
     omega
  rT:=fun j d hj i hi=>b7 hd (h.rT j d hj i hi)
  rO:=by
   intro j oj hj i hi
   rw[List.getElem?_set]at hj
   by_cases e:id=j
   ·subst e
    simp only[hlt,if_true]at hj
    cases hj
    exact hro i hi
   ·simp only[e,if_false]at hj
    exact b7 hd (h.rO j oj hj i hi)
  tape:=ht.trans h.tape
  osw:=hos.trans h.osw
  out:=hout.trans h.out
  size:=by have:=h.size;omega
  frame:=by
   intro b hb hM
   have EM:=h.size
   rw[hsame b (by omega) fun ⟨h1,h2⟩=>hM ((h.inX b (vq h1 b h2)).2.2 hb)]
   exact h.frame b hb hM
  xw:=h.xw}
theorem Rel.world (h:Rel C tm st G w) {w':World} (hsame:∀ b,b<w.heap.size→w'.heap[b]? =w.heap[b]?) (hsz:w.heap.size≤w'.heap.size)
  (ht:w'.tape=w.tape) (hos:w'.os=w.os) (hout:w'.output=w.output):Rel C tm st G w':=by
 have hok:∀ b,okB C st.os G w b→okB C st.os G w' b:=fun b ⟨h1,h2,h3⟩=>⟨by omega,h2,h3⟩
 have hS:Same (okB C st.os G w) w w':=fun b hb=>hsame b hb.1
 exact {
  tsz:=h.tsz
  ts:=fun j d hj=>(h.ts j d hj).mono hok hS fun i _=> .inl ⟨rfl,rfl⟩
  os:=fun j o hj=>(h.os j o hj).mono hok hS (fun i _=> .inl ⟨rfl,rfl⟩) rfl fun hl b hb=>hsame b (h.inX b ⟨j,o,hj,hl,hb⟩).2.1
  inj:=h.inj
  inX:=fun b hl=>by have:=h.inX b hl;exact⟨this.1,by omega,this.2.2⟩
  rT:=h.rT
  rO:=h.rO
  tape:=ht.trans h.tape
  osw:=hos.trans h.osw
  out:=hout.trans h.out
  size:=by have:=h.size;omega
  frame:=by
   intro b hb hM
   have:=h.size
   rw[hsame b (by omega)]
   exact h.frame b hb hM
  xw:=h.xw}
end
end
section
def fN:Value→D→Bool
 | .int k n,.int k' n'=>k=k'&&n==n'
 | .bool a,.bool b=>a==b
 | .string s,.str t=>s.data==t.data
 | .slice none 0 0,.zs _ b=>b
 | .nilFunc,.nilfn=>true
 |_,_=>false
def gV:List Value→List D→Bool
 |[],[]=>true
 |v::vs,d::ds=>fN v d&&gV vs ds
 |_,_=>false
def rM:Value→D→Bool
 | .agg cs,.agg ds=>gV cs.toList ds
 |v,d=>fN v d
def bw:Operand→Opd→Bool
 | .tmp t,.t n=>t==n
 | .const v,.c d=>rM v d
 | .func f,.c (.fn g [])=>f==g
 |_,_=>false
def dG:List Operand→List Opd→Bool
 |[],[]=>true
 |x::xs,y::ys=>bw x y&&dG xs ys
 |_,_=>false
def isAggT (P:Program) (t:TypeId):Option Bool:=
 match P.underlying t with
 |some (.struct _)=>some true
 |some (.array _ _)=>some true
 |some _=>some false
 |none=>none
def szOk (P:Program) (t:TypeId) (k:Vk):Bool:=
 (P.info? t).map (·.size)==some k.ks.length&&isAggT P t==some k.agg&&(k.agg ||k.ks.length==1)
def mJ (P:Program) (t:TypeId) (zero:List D):Bool:=
 match (P.info? t).bind (·.zero)with
 |some z=>gV z.cells.toList zero&&zero.all cell0
 |none=>false
def lE (P:Program) (t:TypeId) (i:Nat):Option (Nat×Nat):=
 match P.underlying t with
 |some (.struct fs)=>match fs[i]? with
  |some f=>(P.info? f.type).map fun jA=>(f.offset,jA.size)
  |none=>none
 |some (.array _ e)=>(P.info? e).map fun jA=>(i*jA.size,jA.size)
 |_=>none
def eb (P:Program) (t:TypeId):List (Nat×Operand)→List (Nat×Nat)→List Opd→Bool
 |[],[],[]=>true
 |(i,x)::xs,p::ps,a::as=>lE P t i==some p&&bw x a&&eb P t xs ps as
 |_,_,_=>false
def n6 (P:Program) (t:TypeId):Bool:=
 match P.underlying t with
 |some (.struct fs)=>fs.toList.all fun f=>(P.info? f.type).isSome
 |some (.array _ e)=>(P.info? e).isSome
 |_=>false
def fO:Nat→List (Nat×Operand)→List Opd→Bool
 |_,[],[]=>true
 |n,(i,x)::xs,a::as=>i==n&&bw x a&&fO (n+1) xs as
 |_,_,_=>false
def vt:Operand→Bool
 | .const (.slice none 0 0)=>true
 |_=>false
def tL (P:Program) (t:TypeId):Bool:=
 match P.underlying t with
 |some (.slice _)=>true
 |_=>false
def lF:Bool→BinOp→Bool
 |true,.neq=>true
 |false,.eql=>true
 |_,_=>false
def vu (P:Program) (t e:TypeId):Bool:=match P.underlying t with |some (.slice e')=>e'==e |_=>false
def tM (P:Program) (t:TypeId):Bool:=match P.underlying t with |some .string=>true |_=>false
def Do (P:Program) (t:TypeId) (k:IntKind):Bool:=match P.underlying t with |some (.int k')=>k'=k |_=>false
def dC (P:Program):Nat→TypeId→Option (List Sk)
 |0,_=>none
 |n+1,t=>match P.underlying t with
  |some .bool=>some [.bool]
  |some (.int k)=>some [.int k]
  |some .string=>some [.str]
  |some (.struct fs)=>match P.stoodInHeld t with
   |false=>fs.toList.foldl (fun acc f=>match acc,dC P n f.type,P.info? f.type with
    |some a,some s,some i=>match f.name != "_" &&f.offset==a.length&&i.size==s.length with
        |true=>some (a++s)
        |false=>none
    |_,_,_=>none) (some [])
   |true=>none
  |some (.array len e)=>match dC P n e,P.info? e with
   |some s,some i=>match i.size==s.length with
    |true=>some (List.replicate len s).flatten
    |false=>none
   |_,_=>none
  |_=>none
def rN:Value→Bool | .agg _=>true |_=>false
def oF (P:Program) (t:TypeId) (k e:Vk):Bool:=
 match P.underlying t with
 |some (.map kt _)=>(match dC P 20 kt with |some ks=>k.ks==ks |none=>false)&&(match isAggT P kt with |some a=>k.agg==a |none=>false)
 |_=>false
def lG:Option Operand→List Operand
 |some x=>[x]
 |none=>[]
def aX (P:Program) (ty:TypeId→Option Vk) (op:Op) (d:tE) (as:List Opd):Bool:=
 match d with
 | .mv=>match op,as with
  | .move x,[a]=>bw x a
  | .assign x,[a]=>bw x a
  |_,_=>false
 | .zH=>false
 | .pick=>match op,as with
  | .pick c a b,[c',a',b']=>bw c c'&&bw a a'&&bw b b'
  |_,_=>false
 | .alloc _ zero=>match op,as with
  | .alloc t,[]=>mJ P t zero
  |_,_=>false
 | .box _=>match op,as with
  | .box _ x,[a]=>bw x a
  |_,_=>false
 | .Di=>false
 | .build zero ps=>match op with
  | .build t parts=>mJ P t zero&&n6 P t&&eb P t parts.toList ps as
  |_=>false
 | .bp _ e=>match op with
  | .buildSlice t n parts=>vu P t e&&n==as.length&&fO 0 parts.toList as&&(match ty e,P.info? e with
   |some k,some i=>n*k.ks.length≤16777216&&(i.zero.map fun z=>z.cells.size)==some k.ks.length
   |_,_=>false)
  |_=>false
 | .load k=>match op,as with
  | .load t x,[a]=>szOk P t k&&bw x a
  |_,_=>false
 | .store k=>match op,as with
  | .store t x y,[a,b]=>szOk P t k&&bw x a&&bw y b
  |_,_=>false
 | .bin b=>match op,as with
  | .binOp b' _ x y _,[a,c]=>decide (b=b')&&bw x a&&bw y c
  |_,_=>false
 | .eqv neg k=>match op,as with
  | .binOp b t x y _,[a,c]=>lF neg b&&bw x a&&bw y c&&dC P 100 t==some k.ks&&isAggT P t==some k.agg&& !P.eqGuardType P.depth t
  |_,_=>false
 | .ow neg=>match op,as with
  | .binOp b t x y _,[a]=>lF neg b&&tL P t&&(bw x a&&vt y)
  |_,_=>false
 | .not=>match op,as with
  | .unOp .not _ x,[a]=>bw x a
  |_,_=>false
 | .neg=>false
 | .conv k=>match op,as with
  | .convert s t x,[a]=>(P.underlying s).isSome&&Do P t k&&bw x a
  |_,_=>false
 | .bytes _=>false
 | .slice te lo hi mx=>match op with
  | .slice t x l h m=>(l.isSome==lo)&&(h.isSome==hi)&&(m.isSome==mx)&&(match mx with |true=>lo&&hi |false=>true)&&dG ([x]++lG l++lG h++lG m) as&&(match te with
   |some e=>vu P t e&&(ty e).isSome
   |none=>tM P t)
  |_=>false
 | .oy _ _ _=>false
 | .aY off=>match op,as with
  | .fieldAddr s x f,[a]=>bw x a&&(match P.underlying s with
   |some (.struct fs)=>match fs[f]? with
    |some fd=>fd.offset==off&&(match P.info? fd.type with |some i=>i.size !=0 |none=>false)
    |none=>false
   |_=>false)
  | .indexAddr t x (.const (.int _ i)),[a]=>bw x a&&(match P.underlying t with
   |some (.array n e)=>decide (0≤i)&&decide (i<(n:Int))&&(match P.info? e with |some jA=>jA.size !=0&&i.toNat*jA.size==off |none=>false)
   |_=>false)
  |_,_=>false
 | .part _ _=>false
 | .xY=>match op,as with
  | .index t x i,[a,b]=>tM P t&&bw x a&&bw i b
  |_,_=>false
 | .Bn _ _=>false
 | .zD n=>match op,as with
  | .indexAddr t x i,[a,b]=>bw x a&&bw i b&&(match P.underlying t with
   |some (.array m e)=>m==n&&(P.info? e).map (·.size)==some 1
   |_=>false)
  |_,_=>false
 | .fp=>match op,as with
  | .nilCheck x,[a]=>bw x a
  |_,_=>false
 | .ox _=>false
 | .aB e=>match op,as with
  | .indexAddr t x i,[a,b]=>vu P t e&&(ty e).isSome&&bw x a&&bw i b
  |_,_=>false
 | .ext j=>match op,as with
  | .extract x j',[a]=>j==j'&&bw x a
  |_,_=>false
 | .len=>match op,as with
  | .call {callee:= .builtin .len,args,argTypes},[a]=>match args.toList,argTypes.toList with
   |[x],[t]=>bw x a&&(match P.underlying t with |some (.slice _)=>true |_=>false)
   |_,_=>false
  |_,_=>false
 | .Dh=>false
 | .append _ e Eo=>match op,as with
  | .call {callee:= .builtin .append,args,argTypes},[a,b]=>match args.toList,argTypes.toList with
   |[x,y],[t,u]=>bw x a&&bw y b&&vu P t e&&(match P.underlying u with |some (.slice _)=>true |some .string=>true |_=>false)&&(match ty e,P.info? e with
    |some k,some i=>i.bytes==Eo&&0<i.bytes&&(i.zero.map fun z=>z.cells.size)==some k.ks.length
    |_,_=>false)
   |_,_=>false
  |_,_=>false
 | .copy _=>false
 | .clear _ _=>false
 | .call _=>match op,as with
  | .call {callee:= .value f,args,..},a::as=>bw f a&&dG args.toList as
  |_,_=>false
 | .vo f=>match op with
  | .makeFunc (.func g) first cap=>f==g&&first.isEmpty&&dG cap.toList as
  |_=>false
 | .zI f=>match op with
  | .makeFunc (.func g) first cap=>f==g&&first.isEmpty&&dG cap.toList as
  |_=>false
 | .iX _ _=>match op,as with
  | .call {callee:= .value f,args,..},[a,b]=>match args.toList with
   |[x]=>bw f a&&bw x b
   |_=>false
  |_,_=>false
 | .yld _ _=>match op,as with
  | .call {callee:= .value f,args,..},[a,b]=>match args.toList with
   |[x]=>bw f a&&bw x b
   |_=>false
  |_,_=>false
 | .zE _ _ _ _=>false
 | .mkMap _ k e=>match op,as with
  | .makeMap t none,[]=>oF P t k e
  |_,_=>false
 | .xZ k e z ok=>match op,as with
  | .lookup t x y qj,[a,b]=>bw x a&&bw y b&&oF P t k e&&ok==qj&&(match P.underlying t with
   |some (.map _ et)=>e.fits z&&(match P.info? et with
    |some i=>(match i.zero with
     |some zv=>gV zv.cells.toList ((cellsOf z).map fun | .sl e true []=> .zs e true |d=>d)&&rN zv==e.agg
     |none=>false)
    |none=>false)
   |_=>false)
  |_,_=>false
 | .x_ k e=>match op,as with
  | .mapUpdate t x y z,[a,b,c]=>bw x a&&bw y b&&bw z c&&oF P t k e
  |_,_=>false
 | .kT _ _=>false
 | .zF=>false
 | .zG _=>false
 | .bad=>true
 | .mn=>match op,as with
  | .call {callee:= .builtin .min,args,..},[a,b]=>match args.toList with
   |[x,y]=>bw x a&&bw y b
   |_=>false
  | .call {callee:= .builtin .min,args,..},[a,b,c]=>match args.toList with
   |[x,y,z]=>bw x a&&(bw y b&&bw z c)
   |_=>false
  |_,_=>false
 | .mx=>false
def lH (ops:Array Oper):Option (Nat×Bool)→Option (Nat×Bool)→Bool
 |none,none=>true
 |some (j,b),some (g,b')=>b==b'&&((ops[j]?).bind (·.dst))==some g
 |_,_=>false
def iD (P:Program) (ty:TypeId→Option Vk) (ops:Array Oper) (o:Oper) (d:DOper):Bool:=
 o.dst==d.dst&&lH ops o.guard d.guard&&aX P ty o.op d.op d.args&&d.after.all fun e=>o.after.any fun x=>x.on==e&&Region.binds .any x
def cZ (P:Program) (ty:TypeId→Option Vk) (ops:Array Oper):List Oper→List DOper→Bool
 |[],[]=>true
 |o::os,d::ds=>iD P ty ops o d&&cZ P ty ops os ds
 |_,_=>false
def backOk:Nat→List Oper→Bool
 |_,[]=>true
 |i,o::os=>(o.after.all fun x=> !Region.binds .any x ||Nat.blt x.on i)&&backOk (i+1) os
def ii:List CellM→List Nat
 |[]=>[]
 | .p _::l=>ii l
 | .o s _::l=>s::ii l
def slotSites:List (Nat×SlotM)→List Nat
 |[]=>[]
 |(_,.p _)::l=>slotSites l
 |(_,.o s _)::l=>s::slotSites l
def objSites:List (Nat×ObjM)→List Nat
 |[]=>[]
 |(i,.a _)::l=>i::objSites l
 |(i,.m _ _)::l=>i::objSites l
 |(i,.v cm)::l=>i::(ii cm++objSites l)
def dstsOf:DCode→List Nat
 | .region _ ops=>ops.filterMap (·.dst)
 | .seq a b=>dstsOf a++dstsOf b
 | .cond c a b=>dstsOf a++dstsOf b
 | .block _ c=>dstsOf c
 | .loop _ c=>dstsOf c
 |_=>[]
def cellTy (ty:TypeId→Option Vk):List CellM→Bool
 |[]=>true
 | .p _::l=>cellTy ty l
 | .o _ e::l=>(ty e).isSome&&cellTy ty l
def slotTy (ty:TypeId→Option Vk):List (Nat×SlotM)→Bool
 |[]=>true
 |(_,.p _)::l=>slotTy ty l
 |(_,.o _ e)::l=>(ty e).isSome&&slotTy ty l
def objTy (ty:TypeId→Option Vk):List (Nat×ObjM)→Bool
 |[]=>true
 |(_,.a _)::l=>objTy ty l
 |(_,.m _ _)::l=>objTy ty l
 |(_,.v cm)::l=>cellTy ty cm&&objTy ty l
def chkCode (P:Program) (ty:TypeId→Option Vk) (N:Nat) (S:List Nat):Code→DCode→Bool
 |_,.bad=>true
 | .skip,.skip=>true
 | .label _,.skip=>true
 | .scope c,d=>chkCode P ty N S c d
 | .region _ ops draw,.region draw' ds=>draw==draw'&&cZ P ty ops ops.toList ds&&(!draw ||backOk 0 ops.toList)
 | .seq a b,.seq a' b'=>chkCode P ty N S a a'&&chkCode P ty N S b b'
 | .cond c a b,.cond c' a' b'=>bw c c'&&chkCode P ty N S a a'&&chkCode P ty N S b b'
 | .block i c,.block j c'=>i==j&&chkCode P ty N S c c'
 | .loop c,.loop sh c'=>S.all (fun i=>(sh.objs.map (·.1)).contains i)&&chkCode P ty N (sh.objs.map (·.1)) c c'&&sh.keep.all (fun j=> !(dstsOf c').contains j)&&nodupB (slotSites sh.slots++objSites sh.objs)&&nodupB (sh.slots.map (·.1))&&sh.slots.all (fun p=> !sh.keep.contains p.1)&&slotTy ty sh.slots&&objTy ty sh.objs&&(slotSites sh.slots++objSites sh.objs).all (fun s=>Nat.blt s N)
 | .exit i,.exit j=>i==j
 | .ret,.ret=>true
 |_,_=>false
def chkRes (P:Program):List ResultVar→List ResM→List Rm→Bool
 |[],[],[]=>true
 | .tmp t::rs,.t n::ms,_::ks=>t==n&&chkRes P rs ms ks
 | .cell a t::rs,.c n::ms,.p k::ks=>a==n&&szOk P t k&&k.agg&&chkRes P rs ms ks
 |_,_,_=>false
def lentIds:Nat→List Am→List Nat
 |_,[]=>[]
 |i,.m _::as=>i::lentIds (i+1) as
 |i,.v _::as=>i::lentIds (i+1) as
 |i,_::as=>lentIds (i+1) as
def chkFun (P:Program) (ty:TypeId→Option Vk) (g:Nat) (f:DFun):Bool:=
 match P.funcs[g]? with
 |some fn=>match fn.body with
  |some c=> !(fn.name== "runtime.NumGoroutine")&&fn.ntmps==f.nt&&Nat.ble f.am.length f.nobj&&f.am.all (fun a=>match a with | .g e=>(ty e).isSome |_=>true)&&f.rm.all (fun m=>match m with | .o e=>(ty e).isSome |_=>true)&&chkRes P fn.results.toList f.res f.rm&&chkCode P ty f.nobj (lentIds 0 f.am) c f.body
  |none=>false
 |none=>false
def chkFunW (P:Program) (ty:TypeId→Option Vk) (g:Nat) (f:DFun) (e:TypeId) (n:Nat):Bool:=
 match P.funcs[g]? with
 |some fn=>match fn.body with
  |some c=> !(fn.name== "runtime.NumGoroutine")&&(fn.ntmps==f.nt&&(Nat.ble 4 f.nobj&&((ty e).isSome&&(chkRes P fn.results.toList [.t n] [.p ⟨false,[.int .i64]⟩]&&chkCode P ty f.nobj [1,2] c f.body))))
  |none=>false
 |none=>false
def chkFunI (P:Program) (ty:TypeId→Option Vk) (g:FuncId) (f:DFun) (e:TypeId):Bool:=
 match P.funcs[g]? with
 |some fn=>match fn.body with
  |some c=> !(fn.name== "runtime.NumGoroutine")&&(fn.ntmps==f.nt&&(Nat.ble 4 f.nobj&&((ty e).isSome&&(chkRes P fn.results.toList [] []&&chkCode P ty f.nobj [1] c f.body))))
  |none=>false
 |none=>false
def chkRfC (P:Program) (ty:TypeId→Option Vk) (S:List Nat) (f:RfFun):Code→List DCode→Bool
 | .seq x y,d::ds=>chkCode P ty f.nobj S x d&&chkRfC P ty S f y ds
 | .seq (.seq r (.block _ (.rangeFunc (.tmp n) ps as body))) y,[]=>chkCode P ty f.nobj S r f.mid&&(n==f.fo&&(ps== #[f.bd.p]&&(chkCode P ty f.bd.nobj [1] as f.bd.assign&&(chkCode P ty f.bd.nobj [1] body f.bd.body&&chkCode P ty f.nobj S y f.post))))
 |_,_=>false
def chkFunRf (P:Program) (ty:TypeId→Option Vk) (g:FuncId) (f:RfFun):Bool:=
 match P.funcs[g]? with
 |some fn=>match fn.body with
  |some c=> !(fn.name== "runtime.NumGoroutine")&&(fn.ntmps==f.nt&&(Nat.ble f.am.length f.nobj&&(f.am.all (fun a=>match a with | .g e=>(ty e).isSome |_=>true)&&(f.rm.all (fun m=>match m with | .o e=>(ty e).isSome |_=>true)&&
    (chkRes P fn.results.toList f.res f.rm&&(chkRfC P ty (lentIds 0 f.am) f c f.pre&&(Nat.ble 4 f.bd.nobj&&(!(f.bd.p==f.bd.o)&&(Nat.blt f.bd.p f.nt&&(f.bd.nt==f.nt&&((ty f.e).isSome&&(Nat.blt f.bd.o f.nt&&(chkFunI P ty f.gi f.fi f.e&&Nat.ble f.am.length f.nt)))))))))))))
  |none=>false
 |none=>false
def cg (P:Program) (ty:TypeId→Option Vk):List (Nat×Entry)→Bool
 |[]=>true
 |(g,.code f)::l=>chkFun P ty g f&&cg P ty l
 |(_,.spec _ _)::l=>cg P ty l
 |(g,.wr f e n)::l=>chkFunW P ty g f e n&&cg P ty l
 |(g,.rf f)::l=>chkFunRf P ty g f&&cg P ty l
def wZ (P:Program):List (Nat×Vk)→Bool
 |[]=>true
 |(e,k)::l=>szOk P e k&&Nat.blt 0 k.ks.length&&wZ P l
end
section
section
variable {C:Cx} {tm:Array Value} {st:St} {G:Gh} {w:World} {P:Program}
theorem kV {v:Value} {d:D} (h:fN v d=true) (ok:Nat→Prop):RepV C.ty w ok v d:=by
 unfold fN at h
 split at h
 ·simp at h;obtain⟨rfl,rfl⟩:=h;exact .int _ _
 ·simp at h;subst h;exact .bool _
 ·rename_i s t
  have e:s=t:=by
   cases s;cases t;simp at h;simp[h]
  subst e;exact .str _
 ·subst h;exact .zsnil _
 ·exact .nilfn
 ·cases h
theorem gv {v:Value} {d:D} (h:fN v d=true):refsD d=[]∧refs0 d=[]:=by
 unfold fN at h
 split at h<;>first |(cases h;done) |exact⟨rfl,rfl⟩
theorem gw {v:Value} {d:D} (h:fN v d=true) (os:List Obj):RepT0 C os G w v d:=by
 have hr:=kV (C:=C) (w:=w) h (okB C os G w)
 unfold fN at h
 split at h<;>first |(cases h;done) |exact hr
theorem eX:∀ {vs:List Value} {ds:List D},gV vs ds=true→vs.length=ds.length∧∀ j,j<ds.length→fN (vs.getD j undef) (ds.getD j .undef)=true
 |[],[],_=>⟨rfl,fun j hj=>by simp at hj⟩
 |v::vs,d::ds,h=>by
  simp only[gV,zq3]at h
  obtain⟨h1,h2⟩:=eX h.2
  refine⟨by simp[h1],fun j hj=> ?_⟩
  cases j with
  |zero=>simpa using h.1
  |succ j=>simpa using h2 j (by simpa using hj)
 |[],_::_,h=>by simp[gV]at h
 |_::_,[],h=>by simp[gV]at h
theorem tN {v:Value} {d:D} (h:rM v d=true) (os:List Obj):RepT C os G w v d∧refsD d=[]:=by
 unfold rM at h
 split at h
 ·rename_i cs ds
  obtain⟨h1,h2⟩:=eX h
  refine⟨⟨cs,rfl,by simpa using h1,fun j hj=> ?_⟩, ?_⟩
  ·have:=h2 j hj
   have e:cs.toList.getD j undef=cs.getD j undef:=by simp[zq2,zq1]
   rw[e]at this
   exact gw this os
  ·simp only[refsD,refs1,refsL,List.flatMap_eq_nil_iff]
   intro d hd
   obtain⟨j,hj,rfl⟩:=List.getElem_of_mem hd
   have:=h2 j hj
   have e:ds.getD j .undef=ds[j]:=by simp[zq1,hj]
   rw[e]at this
   exact (gv this).2
 ·have hc:=gw (C:=C) (w:=w) (G:=G) h os
  have hr:=gv h
  refine⟨?_,hr.1⟩
  unfold fN at h
  split at h<;>first |(cases h;done) |exact hc
theorem val_rep (h:Rel C tm st G w) {x:Operand} {o:Opd} (hc:bw x o=true) {df:List Deferred}:
  RepT C st.os G w ((Act.eval ⟨tm,df⟩ x)) (o.val st.ts)∧∀ id,id∈refsD (o.val st.ts)→isDead (st.os.getD id .gone)=false:=by
 unfold bw at hc
 split at hc
 ·rename_i t n
  simp at hc
  subst hc
  simp only[Act.eval,Opd.val]
  cases e:st.ts[t]? with
  |none=>
   rw[zq1,e]
   exact⟨trivial,fun id hid=>by simp[refsD,refs1,refs0,refsb]at hid⟩
  |some d=>
   rw[zq1,e]
   exact⟨h.ts t d e,h.rT t d e⟩
 ·rename_i v d
  have:=tN (C:=C) (G:=G) (w:=w) hc st.os
  exact⟨this.1,fun id hid=>by rw[Opd.val,this.2]at hid;cases hid⟩
 ·rename_i f g
  simp at hc
  subst hc
  exact⟨.fn f #[] [] rfl (fun j hj=>by simp at hj),fun id hid=>by simp[Opd.val,refsD,refs1,refs0,refsb]at hid⟩
 ·cases hc
theorem Br {os:List Obj} {rf:List Nat} {id:Nat} {o:Obj} (h:iB os rf id=o) (hne:o≠ .dead):os[id]? =some o∧id∈rf:=by
 unfold iB at h
 split at h
 ·rename_i hc
  rw[zq1]at h
  cases e:os[id]? with
  |none=>rw[e]at h;exact absurd h.symm hne
  |some x=>rw[e]at h;simp at h;subst h;exact⟨rfl,by simpa using hc⟩
 ·exact absurd h.symm hne
theorem oAt_of {os:List Obj} {id:Nat} {o:Obj} (h:os[id]? =some o):oAt os id=oSh o:=by
 simp[oAt,zq1,h]
theorem Bt {k:Vk} {v:Value} {blk:Option Nat} {e:TypeId} {nb:Bool} {l:List D} {xs:List Value} {ok:Nat→Prop}
  (hk:C.ty e=some k) (ho:Dm w k.ks.length blk v l.length nb xs) (hf:∀ d,d∈l→k.fits d=true) (hb:∀ g,blk=some g→ok g)
  (hr:∀ i j,i<l.length→j<k.ks.length→RepV C.ty w ok (xs.getD (i*k.ks.length+j) undef) ((l.getD i .undef).cell j)):
  RepV C.ty w ok v (.sl e nb l):=by
 obtain⟨h1,⟨hn,h0,a,rfl,rfl,hsp⟩ |⟨rfl,g,cap,cur,t,rfl,rfl,hg,hnc,hcm,vw,rfl⟩⟩:=ho
 ·have:l=[]:=List.length_eq_zero_iff.1 h0
  subst this
  cases a with
  |none=>exact .slnil e
  |some ad=>exact .sl e ad 0 [] k (fun _ _=>undef) hk (hsp ad rfl) (Nat.le_refl _) hf (fun h=>absurd rfl h) (fun i j hi=>by simp at hi) (fun i j hi=>by simp at hi)
 ·refine .sl e ⟨g,0,none⟩ cap l k (fun i j=>(cur.toList.take (l.length*k.ks.length)).getD (i*k.ks.length+j) undef) hk (fun _=>rfl) hnc hf (fun _=>hb g rfl) (fun i j hi hj=> ?_) hr
  have hlt:i*k.ks.length+j<l.length*k.ks.length:=by
   have:(i+1)*k.ks.length≤l.length*k.ks.length:=Nat.mul_le_mul_right _ hi
   rw[Nat.add_mul]at this
   omega
  have iE:i*k.ks.length+j<cur.size:=by
   have:l.length*k.ks.length≤cap*k.ks.length:=Nat.mul_le_mul_right _ hnc
   omega
  rw[cell_of_row w g _ cur t (0,0) hg]
  simp[zq1,List.getElem?_take,hlt,iE]
theorem RepV.sub {ok:Nat→Prop} {a:Option Addr} {m c:Nat} {e:TypeId} {nb:Bool} {l:List D} {k:Vk} (h:RepV C.ty w ok (.slice a m c) (.sl e nb l)) (hk:C.ty e=some k)
  {off len:Nat} (hl:off+len≤m) {a':Option Addr} (h1:a'.isNone=a.isNone) (h2:∀ x,a'=some x→c - off≠0→x.spot=none)
  (h3:off<c→a'=a.map (fun x=>⟨x.block,x.off+off*k.ks.length,none⟩)):RepV C.ty w ok (.slice a' len (c - off)) (.sl e nb ((l.drop off).take len)):=by
 cases h with
 |slnil e=>
  have:len=0∧off=0:=by omega
  obtain⟨rfl,rfl⟩:=this
  cases a' with
  |none=>exact .slnil e
  |some x=>simp at h1
 |sl e ad c els k' cs hk' hsp hc hf hok hcell hrep=>
  rw[hk]at hk'
  cases hk'
  cases a' with
  |none=>simp at h1
  |some x=>
   have hlen:((l.drop off).take len).length=len:=by simp;omega
   have hsub:∀ d,d∈(l.drop off).take len→d∈l:=fun d hd=>List.mem_of_mem_drop (List.mem_of_mem_take hd)
   have hget:∀ i,i<len→((l.drop off).take len).getD i .undef=l.getD (off+i) .undef:=by
    intro i hi
    simp[zq1,List.getElem?_take,hi]
   have key:RepV C.ty w ok (.slice (some x) ((l.drop off).take len).length (c - off)) (.sl e false ((l.drop off).take len)):=by
    refine .sl e x (c - off) _ k (fun i j=>cs (off+i) j) hk (h2 x rfl) (by omega) (fun d hd=>hf d (hsub d hd)) ?_ ?_ ?_
    ·intro hne
     have mK:off<c:=by
      rcases Nat.lt_or_ge off c with h |h
      ·exact h
      ·exfalso;apply hne
       have:len=0:=by omega
       subst this;simp
     have:=h3 mK
     simp at this
     subst this
     exact hok (by intro h0;subst h0;simp at hne)
    ·intro i j hi hj
     rw[hlen]at hi
     have mK:off<c:=by omega
     have:=h3 mK
     simp at this
     subst this
     have:=hcell (off+i) j (by omega) hj
     rw[←this]
     have e:ad.off+off*k.ks.length+(i*k.ks.length+j)=ad.off+((off+i)*k.ks.length+j):=by rw[Nat.add_mul];omega
     show w.cell? ⟨ad.block,ad.off+off*k.ks.length+(i*k.ks.length+j),none⟩=_
     rw[e]
    ·intro i j hi hj
     rw[hlen]at hi
     rw[hget i hi]
     exact hrep (off+i) j (by omega) hj
   rw[hlen]at key
   exact key
end
end
section
theorem oG {os:List Obj} {id:Nat} {o:Obj} (h:os[id]? =some o):os.set id o=os:=by
 apply List.ext_getElem?
 intro j
 rw[List.getElem?_set]
 split
 ·rename_i e
  subst e
  split
  ·exact h.symm
  ·rename_i hl
   simp at hl
   simp[List.getElem?_eq_none hl]
 ·rfl
theorem mL (G:Gh) (id:Nat):(fun j=>if j=id then G id else G j)=G:=by
 funext j
 split
 ·rename_i e;rw[e]
 ·rfl
def Fz (os0 os:List Obj):Prop:=∀ (id:Nat) (o:Obj),os0[id]? =some o→os[id]? =some o∨(∃ e nb l,o= .arr e nb l∧os[id]? =some (.fro e nb l))∨
 (∃ cs,o= .var cs∧os[id]? =some (.frv (cs.map cY)))
theorem Fz.refl (os:List Obj):Fz os os:=fun _ _ h=> .inl h
theorem Fz.set {os0 os:List Obj} (h:Fz os0 os) {id:Nat} {o':Obj} (hn:∀ o:Obj,os0[id]? =some o→o'=o∨(∃ e nb l,o= .arr e nb l∧o'= .fro e nb l)∨(∃ cs,o= .var cs∧o'= .frv (cs.map cY))):
  Fz os0 (os.set id o'):=by
 intro j o hj
 by_cases e:id=j
 ·subst e
  have hlt:id<os.length:=by
   rcases h id o hj with h' |⟨_,_,_,_,h'⟩ |⟨_,_,h'⟩<;>
   ·rcases Nat.lt_or_ge id os.length with Ha |Ha
    ·exact Ha
    ·simp[List.getElem?_eq_none Ha]at h'
  rw[List.getElem?_set_self hlt]
  rcases hn o hj with rfl |⟨e,nb,l,h1,h2⟩ |⟨cs,h1,h2⟩
  ·exact .inl rfl
  ·exact .inr (.inl ⟨e,nb,l,h1,by rw[h2]⟩)
  ·exact .inr (.inr ⟨cs,h1,by rw[h2]⟩)
 ·rw[List.getElem?_set_ne e]
  exact h j o hj
section
variable {C:Cx} {tm:Array Value} {ts:List D} {os os0:List Obj} {G:Gh} {w:World} {V:Vw}
theorem okB.lI {id:Nat} {o:Obj} (hl:live o=false) {b:Nat} (h:okB C os G w b):okB C (os.set id o) G w b:=by
 refine⟨h.1,fun ⟨j,oj,hj,hlj,hb⟩=>h.2.1 ?_,h.2.2⟩
 rw[List.getElem?_set]at hj
 split at hj
 ·split at hj
  ·cases hj;rw[hl]at hlj;cases hlj
  ·cases hj
 ·exact⟨j,oj,hj,hlj,hb⟩
theorem Rel.Dp (h:Rel C tm ⟨ts,os⟩ G w) {id:Nat} {e:TypeId} {nb:Bool} {l:List D} (hid:os[id]? =some (.arr e nb l)):Rel C tm ⟨ts,os.set id (.fro e nb l)⟩ G w:=by
 have ho:=h.os id _ hid
 obtain⟨k,xs,hk,hown,hf,hr⟩:=ho
 have hok:∀ b,okB C os G w b→okB C (os.set id (.fro e nb l)) G w b:=fun b hb=>hb.lI rfl
 have hlt:id<os.length:=(zq6.1 hid).1
 have:=h.Em (id:=id) (o:= .arr e nb l) (o':= .fro e nb l) (gh:=G id) (w':=w) hid (.inr ⟨rfl,.inl rfl⟩) rfl (fun hl=>by cases hl) (fun _ _ _=>rfl) (Nat.le_refl _) rfl rfl rfl (by
   simp only[ObjRel,if_true,mL]
   refine Bt hk hown hf ?_ (fun i j hi hj=>(hr i j hi hj).mono hok (fun _ _=>rfl))
   intro g hg
   have hX:=h.inX g ⟨id,_,hid,rfl,hg⟩
   refine⟨hX.2.1,fun ⟨j,oj,hj,hlj,hb⟩=> ?_,hX.1⟩
   rw[List.getElem?_set]at hj
   by_cases e':id=j
   ·subst e'
    simp[hlt]at hj
    subst hj
    cases hlj
   ·simp only[e',if_false]at hj
    exact e' (h.inj id j _ oj g hid hj rfl hlj hg hb)) (fun i hi=>by simp[refsO]at hi)
 rwa [mL]at this
theorem RepT0.toV {v:Value} {d:D} (h:RepT0 C os G w v d) (hp:pure0 d=true):RepV C.ty w (okB C os G w) v d:=by
 cases d<;>first |(simp[pure0]at hp;done) |exact h
structure mM (C:Cx) (tm:Array Value) (ts:List D) (os0 os:List Obj) (G:Gh) (w:World) (ws:Wr):Prop where
 rel:Rel C tm ⟨ts,wrL os ws⟩ G w
 fz:Fz os0 (wrL os ws)
 ok:∀ b,okB C os G w b→okB C (wrL os ws) G w b
 sh:∀ id,oAt (wrL os ws) id=oAt os id
theorem mM.nil (h:Rel C tm ⟨ts,os⟩ G w) (hz:Fz os0 os):mM C tm ts os0 os G w []:=⟨h,hz,fun _ h=>h,fun _=>rfl⟩
theorem qH (h:Rel C tm ⟨ts,os⟩ G w) (hz:Fz os0 os) {id:Nat} {e:TypeId} {nb:Bool} {l:List D} (hid:os0[id]? =some (.arr e nb l)):
  mM C tm ts os0 os G w [(id,.fro e nb l)]∧(wrL os [(id,.fro e nb l)])[id]? =some (.fro e nb l):=by
 have hf:Fz os0 (os.set id (.fro e nb l)):=hz.set fun o ho=>by rw[hid]at ho;cases ho;exact .inr (.inl ⟨e,nb,l,rfl,rfl⟩)
 rcases hz id _ hid with h' |⟨e',nb',l',h1,h'⟩ |⟨cs,h1,_⟩
 ·have hlt:id<os.length:=(zq6.1 h').1
  refine⟨⟨h.Dp h',hf,fun b hb=>hb.lI rfl,fun i=> ?_⟩,by simp[wrL,hlt]⟩
  simp only[wrL]
  rw[cR hlt]
  split
  ·rename_i e;subst e;rw[oAt_of h'];rfl
  ·rfl
 ·cases h1
  have:=oG h'
  simp only[wrL,this]
  exact⟨⟨by simpa[wrL,this]using h,by simpa[wrL,this]using hz,fun b hb=>by simpa[wrL,this]using hb,fun i=>by simp[wrL,this]⟩,h'⟩
 ·cases h1
theorem rP (hV:∀ id o,V id=o→o≠ .dead→os0[id]? =some o) (h:Rel C tm ⟨ts,os⟩ G w) (hz:Fz os0 os) {v:Value} {d:D} (hd:RepT0 C os G w v d)
  (hp:pure0 (bT V d).1=true):mM C tm ts os0 os G w (bT V d).2∧RepV C.ty w (okB C (wrL os (bT V d).2) G w) v (bT V d).1:=by
 cases d with
 |own e' id n=>
  cases e:V id with
  |arr e1 nb l=>
   simp only[bT,e]at hp⊢
   have hid:=hV id _ e (by simp)
   obtain⟨h1,h2⟩:=qH h hz hid
   refine⟨h1, ?_⟩
   have ho:=h1.rel.os id _ h2
   simp only[ObjRel]at ho
   have hs:=h1.sh id
   rw[oAt_of h2]at hs
   simp only[RepT0,←hs,oSh]at hd
   rw[hd.2.2.2];exact ho
  |fro e1 nb l=>
   simp only[bT,e]at hp⊢
   have hid:=hV id _ e (by simp)
   have hid':os[id]? =some (.fro e1 nb l):=by
    rcases hz id _ hid with h' |⟨_,_,_,h1,_⟩ |⟨_,h1,_⟩
    ·exact h'
    ·cases h1
    ·cases h1
   refine⟨.nil h hz, ?_⟩
   have ho:=h.os id _ hid'
   simp only[ObjRel]at ho
   simp only[RepT0,oAt_of hid',oSh]at hd
   rw[hd.2.2.2];exact ho
  |_=>simp[bT,e,pure0]at hp
 |ownv e' id off len=>
  cases e:V id with
  |arr e1 nb l=>
   simp only[bT,e]at hp⊢
   have hid:=hV id _ e (by simp)
   obtain⟨h1,h2⟩:=qH h hz hid
   refine⟨h1, ?_⟩
   have ho:=h1.rel.os id _ h2
   simp only[ObjRel]at ho
   have hs:=h1.sh id
   rw[oAt_of h2]at hs
   simp only[RepT0,←hs,oSh]at hd
   obtain⟨_,h3,h4,a,c,k,h5,h6,a',h7,h8,h9,h10⟩:=hd
   rw[h7]
   rw[h6]at ho
   exact ho.sub h5 h4 h8 h9 h10
  |fro e1 nb l=>
   simp only[bT,e]at hp⊢
   have hid:=hV id _ e (by simp)
   have hid':os[id]? =some (.fro e1 nb l):=by
    rcases hz id _ hid with h' |⟨_,_,_,h1,_⟩ |⟨_,h1,_⟩
    ·exact h'
    ·cases h1
    ·cases h1
   refine⟨.nil h hz, ?_⟩
   have ho:=h.os id _ hid'
   simp only[ObjRel]at ho
   simp only[RepT0,oAt_of hid',oSh]at hd
   obtain⟨_,h3,h4,a,c,k,h5,h6,a',h7,h8,h9,h10⟩:=hd
   rw[h7]
   rw[h6]at ho
   exact ho.sub h5 h4 h8 h9 h10
  |_=>simp[bT,e,pure0]at hp
 |zs e nb=>
  simp only[bT]at hp⊢
  refine⟨.nil h hz, ?_⟩
  simp only[RepT0]at hd
  cases hd with
  |zsnil e=>exact .slnil e
  |zs e ad k hk hsp=>exact .sl e ad 0 [] k (fun _ _=>undef) hk hsp (Nat.le_refl _) (fun d hd=>by cases hd) (fun h=>absurd rfl h) (fun i j hi=>by simp at hi) (fun i j hi=>by simp at hi)
 |undef=>simp[bT,pure0]at hp
 |agg _=>simp[bT,pure0]at hp
 |tup _=>simp[bT,pure0]at hp
 |ptr _ _=>simp[bT,pure0]at hp
 |elp _ _ _ _=>simp[bT,pure0]at hp
 |ela _ _ _=>simp[bT,pure0]at hp
 |elaP _ _ _ _ _=>simp[bT,pure0]at hp
 |ov _ _ _=>simp[bT,pure0]at hp
 |pv _=>simp[bT,pure0]at hp
 |mo _=>simp[bT,pure0]at hp
 |mpv _ _=>simp[bT,pure0]at hp
 |fnr _ _=>simp[bT,pure0]at hp
 |yl _=>simp[bT,pure0]at hp
 |_=>exact⟨.nil h hz,hd⟩
theorem bx (os:List Obj) (a b:Wr):wrL os (a++b)=wrL (wrL os a) b:=by
 induction a generalizing os with
 |nil=>rfl
 |cons x xs ih=>cases x;exact ih _
theorem mM.append {a b:Wr} (h1:mM C tm ts os0 os G w a) (h2:mM C tm ts os0 (wrL os a) G w b):mM C tm ts os0 os G w (a++b):=
 ⟨by rw[bx];exact h2.rel,by rw[bx];exact h2.fz,fun b hb=>by rw[bx];exact h2.ok b (h1.ok b hb),fun id=>by rw[bx,h2.sh,h1.sh]⟩
theorem RepT0.sh {os':List Obj} {v:Value} {d:D} (h:RepT0 C os G w v d) (hok:∀ b,okB C os G w b→okB C os' G w b) (lD:∀ id,oAt os' id=oAt os id):RepT0 C os' G w v d:=
 h.mono hok (fun _ _=>rfl) fun id _=> .inl ⟨lD id,rfl⟩
theorem w_ (hV:∀ id o,V id=o→o≠ .dead→os0[id]? =some o):∀ (ds:List D) (os:List Obj),Rel C tm ⟨ts,os⟩ G w→Fz os0 os→∀ (vs:Nat→Value),(∀ j,j<ds.length→RepT0 C os G w (vs j) (ds.getD j .undef))→
  (frzL V ds).1.all pure0=true→mM C tm ts os0 os G w (frzL V ds).2∧(frzL V ds).1.length=ds.length∧∀ j,j<ds.length→RepV C.ty w (okB C (wrL os (frzL V ds).2) G w) (vs j) ((frzL V ds).1.getD j .undef)
 |[],os,h,hz,vs,hd,hp=>⟨.nil h hz,rfl,fun j hj=>by simp at hj⟩
 |d::ds,os,h,hz,vs,hd,hp=>by
  simp only[frzL,List.all_cons,zq3]at hp
  obtain⟨h1,h2⟩:=rP hV h hz (by simpa using hd 0 (by simp)) hp.1
  obtain⟨h3,h4,h5⟩:=w_ hV ds (wrL os (bT V d).2) h1.rel h1.fz (fun j=>vs (j+1)) (fun j hj=>by
   have:=hd (j+1) (by simpa using hj)
   simp only[List.getD_cons_succ]at this
   exact this.sh h1.ok h1.sh) hp.2
  refine⟨h1.append h3,by simp[frzL,h4],fun j hj=> ?_⟩
  simp only[frzL,bx]
  cases j with
  |zero=>exact h2.mono h3.ok (fun _ _=>rfl)
  |succ j=>simpa using h5 j (by simpa using hj)
theorem Rel.Dq (h:Rel C tm ⟨ts,os⟩ G w) {id:Nat} {cs cs':List D} (hid:os[id]? =some (.var cs)) (hl:cs'.length=cs.length) (hp:∀ d,d∈cs'→pure0 d=true)
  (hr:∀ cells t g,G id=(.pointer (some ⟨g,0,none⟩),some g)→w.heap[g]? =some (.cells cells t (0,0))→∀ j,j<cs.length→RepV C.ty w (okB C os G w) (cells.getD j undef) (cs'.getD j .undef)):
  Rel C tm ⟨ts,os.set id (.frv cs')⟩ G w:=by
 have ho:=h.os id _ hid
 obtain⟨g,cells,t,hg,hh,hsz,vw⟩:=ho
 have hok:∀ b,okB C os G w b→okB C (os.set id (.frv cs')) G w b:=fun b hb=>hb.lI rfl
 have hlt:id<os.length:=(zq6.1 hid).1
 have:=h.Em (id:=id) (o:= .var cs) (o':= .frv cs') (gh:=G id) (w':=w) hid (.inr ⟨rfl,.inl (by simp[oSh,hl])⟩) rfl (fun hl=>by cases hl) (fun _ _ _=>rfl) (Nat.le_refl _) rfl rfl rfl (by
   simp only[ObjRel,if_true,mL]
   rw[hg]
   refine .rp g cs' 0 (fun j=>cells.getD j undef) hp ?_ (fun j hj=> ?_) (fun j hj=>(hr cells t g hg hh j (by omega)).mono hok (fun _ _=>rfl))
   ·have hX:=h.inX g ⟨id,_,hid,rfl,by rw[hg]⟩
    refine⟨hX.2.1,fun ⟨j,oj,hj,hlj,hb⟩=> ?_,hX.1⟩
    rw[List.getElem?_set]at hj
    by_cases e':id=j
    ·subst e'
     simp[hlt]at hj
     subst hj
     cases hlj
    ·simp only[e',if_false]at hj
     exact e' (h.inj id j _ oj g hid hj rfl hlj (by rw[hg]) hb)
   ·rw[cell_of_row w g j cells t (0,0) hh]
    have:j<cells.size:=by omega
    simp[zq2,this]) (fun i hi=>by simp[refsO]at hi)
 rwa [mL]at this
theorem vz (hV:∀ id o,V id=o→o≠ .dead→os0[id]? =some o) (h:Rel C tm ⟨ts,os⟩ G w) (hz:Fz os0 os) {v:Value} {d:D} (hd:RepT C os G w v d)
  (hp:pureD (frz V d).1=true):mM C tm ts os0 os G w (frz V d).2∧RepV C.ty w (okB C (wrL os (frz V d).2) G w) v (frz V d).1:=by
 have vA:∀ d',RepT0 C os G w v d'→pure0 (bT V d').1=true→mM C tm ts os0 os G w (bT V d').2∧RepV C.ty w (okB C (wrL os (bT V d').2) G w) v (bT V d').1:=
  fun d' h1 h2=>rP hV h hz h1 h2
 cases d with
 |agg cs=>
  simp only[frz,pureD]at hp⊢
  obtain⟨cells,rfl,h1,h2⟩:=hd
  obtain⟨h3,h4,h5⟩:=w_ hV cs os h hz (fun j=>cells.getD j undef) h2 hp
  exact⟨h3,.agg cells _ (by omega) (fun j hj=>h5 j (by omega))⟩
 |tup ds=>simp[frz,bT,pureD,pure0]at hp
 |ptr id off=>
  simp only[RepT,RepT1]at hd
  cases e:V id with
  |var cs=>
   simp only[frz,e]at hp⊢
   have hid:=hV id _ e (by simp)
   have vw:∀ d∈cs.map cY,pure0 d=true:=by
    simp only[pureD,pure0,rpOk,Bool.true_and,List.all_eq_true]at hp
    exact hp
   have key:∀ os',Rel C tm ⟨ts,os'⟩ G w→os'[id]? =some (.frv (cs.map cY))→RepT0 C os' G w v (.ptr id off)→RepV C.ty w (okB C os' G w) v (.rp (cs.map cY) off):=by
    intro os' h' hid' hd'
    have ho:=h'.os id _ hid'
    simp only[ObjRel]at ho
    simp only[RepT0,oAt_of hid',oSh]at hd'
    obtain⟨_,g,h1,h2⟩:=hd'
    rw[h1]at ho
    rw[h2]
    cases ho with
    |rp b cs oH vals hp hok hcell hrep=>exact .rp g _ off vals hp hok hcell hrep
   rcases hz id _ hid with h' |⟨_,_,_,h1,_⟩ |⟨NY,h1,h'⟩
   ·have hlt:id<os.length:=(zq6.1 h').1
    have hrel:=h.Dq h' (cs':=cs.map cY) (by simp) vw (fun cells t g hg hh j hj=>by
     obtain⟨g',cells',t',Kw,EN,hsz,hc⟩:=h.os id _ h'
     rw[hg]at Kw
     cases Kw
     rw[hh]at EN
     cases EN
     have h3:=(hc j hj).1
     have h4:pure0 ((cs.map cY).getD j .undef)=true:=vw _ (mem_getD (by simpa using hj))
     have h5:(cs.map cY).getD j .undef=cY (cs.getD j .undef):=by simp[zq1,hj]
     rw[h5]at h4⊢
     generalize cs.getD j .undef=d0 at h3 h4
     have:=(rP (V:=fun _=> .dead) (os0:=os) (fun id o h hne=>absurd h.symm hne) h (.refl os) h3 (by
      cases d0<;>first |exact h4 |(simp[cY,pure0]at h4;done))).2
     cases d0<;>first |exact this |(simp[cY,pure0]at h4;done))
    have hok:∀ b,okB C os G w b→okB C (os.set id (.frv (cs.map cY))) G w b:=fun b hb=>hb.lI rfl
    have lD:∀ i,oAt (os.set id (.frv (cs.map cY))) i=oAt os i:=fun i=>by
     rw[cR hlt]
     split
     ·rename_i e;subst e;rw[oAt_of h'];simp[oSh]
     ·rfl
    refine⟨⟨hrel,hz.set fun o ho=>by rw[hid]at ho;cases ho;exact .inr (.inr ⟨cs,rfl,rfl⟩),hok,lD⟩, ?_⟩
    exact key (os.set id (.frv (cs.map cY))) hrel (List.getElem?_set_self hlt) (RepT0.sh hd hok lD)
   ·cases h1
   ·cases h1
    have e':wrL os [(id,.frv (cs.map cY))]=os:=oG h'
    refine⟨⟨by rw[e'];exact h,by rw[e'];exact hz,fun b hb=>by rw[e'];exact hb,fun i=>by rw[e']⟩, ?_⟩
    rw[e']
    exact key _ h h' hd
  |frv cs=>
   simp only[frz,e]at hp⊢
   have hid:=hV id _ e (by simp)
   have hid':os[id]? =some (.frv cs):=by
    rcases hz id _ hid with h' |⟨_,_,_,h1,_⟩ |⟨_,h1,_⟩
    ·exact h'
    ·cases h1
    ·cases h1
   refine⟨.nil h hz, ?_⟩
   have ho:=h.os id _ hid'
   simp only[ObjRel]at ho
   simp only[RepT0,oAt_of hid',oSh]at hd
   obtain⟨_,g,h1,h2⟩:=hd
   rw[h1]at ho
   rw[h2]
   cases ho with
   |rp b cs oH vals hp hok hcell hrep=>exact .rp g cs off vals hp hok hcell hrep
  |_=>simp[frz,e,pureD,pure0]at hp
 |undef=>simp[frz,bT,pureD,pure0]at hp
 |own e id n=>
  refine vA _ hd ?_
  simp only[frz,bT]at hp⊢
  split at hp<;>first |rfl |(simp[pureD,pure0]at hp;done) |simp_all [pureD,pure0,rpOk]
 |ownv e id o n=>
  refine vA _ hd ?_
  simp only[frz,bT]at hp⊢
  split at hp<;>first |rfl |(simp[pureD,pure0]at hp;done) |simp_all [pureD,pure0,rpOk]
 |_=>
  refine vA _ hd ?_
  simp only[frz,bT,pureD,zq3]at hp⊢
  exact hp.1
end
end
section
def bM (C:Cx) (tm:Array Value) (st:St) (G:Gh) (w:World) (v:D) (ws:Wr) (r:Result Next):Prop:=
 ∃ v' w' G',(r= .ok (.value v') w'∨(v'=undef∧r= .ok .skip w'))∧Rel C tm ⟨st.ts,wrL st.os ws⟩ G' w'∧RepT C (wrL st.os ws) G' w' v' v∧
  (∀ id,id∈refsD v→isDead ((wrL st.os ws).getD id .gone)=false)∧∀ i,isDead (st.os.getD i .gone)=false→G' i=G i
def tP (C:Cx) (P:Program):Prop:=∀ e k,C.ty e=some k→szOk P e k=true∧0<k.ks.length
section
variable {C:Cx} {P:Program} {E:Env} {tm:Array Value} {st:St} {G:Gh} {w:World} {ρ:Operand→Value} {o:Oper}
theorem bM.val (h:Rel C tm st G w) {v:D} {v':Value} {r:Result Next} (hr:r= .ok (.value v') w) (hv:RepT C st.os G w v' v)
  (hd:∀ id,id∈refsD v→isDead (st.os.getD id .gone)=false):bM C tm st G w v [] r:=
 ⟨v',w,G,.inl hr,h,hv,hd,fun _ _=>rfl⟩
theorem cI {t:TypeId} {k:Vk} (h:szOk P t k=true):∃ i,P.info? t=some i∧i.size=k.ks.length∧isAggT P t=some k.agg∧(k.agg=false→k.ks.length=1):=by
 simp only[szOk,zq3,beq_iff_eq,Bool.or_eq_true]at h
 obtain⟨⟨h1,h2⟩,h3⟩:=h
 cases e:P.info? t with
 |none=>rw[e]at h1;simp at h1
 |some i=>
  rw[e]at h1
  simp at h1
  exact⟨i,rfl,h1,h2,fun hk=>by rcases h3 with h3 |h3;· rw[hk]at h3;cases h3
                               ·exact h3⟩
theorem qI {t:TypeId} {b:Bool} (h:isAggT P t=some b) (w:World):(isAgg t).run P w= .ok b w:=by
 unfold isAggT at h
 unfold isAgg
 cases e:P.underlying t with
 |none=>rw[e]at h;simp at h
 |some d=>
  rw[e]at h
  rw[Sem.run_bind,run_underlying e]
  cases d<;>simp_all
theorem run_sizeOf {t:TypeId} {i:TypeInfo} (h:P.info? t=some i) (w:World):(sizeOf t).run P w= .ok i.size w:=by
 simp[sizeOf,typeInfo,h]
theorem RepT0.up {os:List Obj} {v:Value} {d:D} (h:RepT0 C os G w v d):RepT C os G w v d:=by
 cases d<;>first |exact h |exact h.elim
theorem RepV.t0 {os:List Obj} {v:Value} {d:D} (h:RepV C.ty w (okB C os G w) v d) (hp:pure0 d=true):RepT0 C os G w v d:=by
 cases d<;>first |exact h |(simp[pure0]at hp;done)
theorem fG {d:D} (h:pure0 d=true):refs0 d=[]∧refsD d=[]:=by
 cases d<;>first |exact⟨rfl,rfl⟩ |(simp[pure0]at h;done)
theorem xb (h:Rel C tm st G w) {x:Operand} {a:Opd} (aP:o.op= .move x∨o.op= .assign x)
  (hv:RepT C st.os G w (ρ x) (a.val st.ts)∧∀ id,id∈refsD (a.val st.ts)→isDead (st.os.getD id .gone)=false):
  bM C tm st G w (a.val st.ts) [] ((execOp ρ o).run P w):=by
 refine .val h ?_ hv.1 hv.2
 rcases aP with e |e<;>simp[execOp,e]
theorem yc (h:Rel C tm st G w) {x y z:Operand} {c:Bool} {a b:D} (aP:o.op= .pick x y z) (hx:ρ x= .bool c)
  (ha:RepT C st.os G w (ρ y) a∧∀ id,id∈refsD a→isDead (st.os.getD id .gone)=false)
  (hb:RepT C st.os G w (ρ z) b∧∀ id,id∈refsD b→isDead (st.os.getD id .gone)=false):
  bM C tm st G w (match c with |true=>a |false=>b) [] ((execOp ρ o).run P w):=by
 cases c with
 |true=>exact .val h (by simp[execOp,aP,hx,asBool]) ha.1 ha.2
 |false=>exact .val h (by simp[execOp,aP,hx,asBool]) hb.1 hb.2
theorem bq {os:List Obj} {v:Value} {k:IntKind} {n:Int} (h:RepT C os G w v (.int k n)):v= .int k n:=by
 cases h;rfl
theorem inv_bool {os:List Obj} {v:Value} {b:Bool} (h:RepT C os G w v (.bool b)):v= .bool b:=by cases h;rfl
theorem dO {os:List Obj} {v:Value} {s:ByteArray} (h:RepT C os G w v (.str s)):v= .string s:=by cases h;rfl
theorem ec (h:Rel C tm st G w) {r:Result Next} {k:IntKind} {n:Int} (hr:r= .ok (.value (.int k n)) w):bM C tm st G w (.int k n) [] r:=
 .val h hr (.int k n) (fun id hid=>by simp[refsD,refs1,refs0,refsb]at hid)
theorem fH (h:Rel C tm st G w) {r:Result Next} {b:Bool} (hr:r= .ok (.value (.bool b)) w):bM C tm st G w (.bool b) [] r:=
 .val h hr (.bool b) (fun id hid=>by simp[refsD,refs1,refs0,refsb]at hid)
theorem tQ (h:Rel C tm st G w) {r:Result Next} {s:ByteArray} (hr:r= .ok (.value (.string s)) w):bM C tm st G w (.str s) [] r:=
 .val h hr (.str s) (fun id hid=>by simp[refsD,refs1,refs0,refsb]at hid)
abbrev KS:D→Wr→Option (D×Wr):=fun v ws=>some (v,ws)
theorem cJ {b:BinOp} {t:TypeId} {x y:Operand} {u v:Value} (h1:u≠ .nilIface) (h2:∀ cs,u≠ .agg cs) (w:World):(eqGuard b t x y u v).run P w= .ok () w:=by
 cases u<;>first |exact absurd rfl h1 |exact absurd rfl (h2 _) |(cases b<;>rfl)
theorem zL (h:Rel C tm st G w) {b:BinOp} {t t':TypeId} {x y:Operand} {d1 d2 v:D} {ws:Wr} (aP:o.op= .binOp b t x y t')
  (hx:RepT C st.os G w (ρ x) d1) (hy:RepT C st.os G w (ρ y) d2) (he:ya KS b [d1,d2]=some (v,ws)):
  bM C tm st G w v ws ((execOp ρ o).run P w):=by
 cases d1<;>cases d2<;>simp only[ya]at he<;>try (cases he;done)
 ·rename_i k a k' c
  have e1:=bq hx
  have e2:=bq hy
  have hg:(eqGuard b t x y (Value.int k a) (Value.int k' c)).run P w= .ok () w:=cJ (by simp) (by simp) w
  cases hs:Bo b with
  |true=>
   simp only[hs]at he
   cases b<;>simp[Bo]at hs
   ·simp only[qy]at he
    split at he
    ·cases he
    ·cases he
     rename_i Dr
     exact ec h (by simp[execOp,aP,e1,e2,hg,binOp,Op.shift,Dr])
   ·simp only[qy]at he
    split at he
    ·cases he
    ·cases he
     rename_i Dr
     exact ec h (by simp[execOp,aP,e1,e2,hg,binOp,Op.shift,Dr])
  |false=>
   simp only[hs]at he
   split at he
   ·rename_i hk
    subst hk
    cases b<;>simp[Bo]at hs<;>simp only[oz]at he<;>
     first
      |(cases he;exact ec h (by simp[execOp,aP,e1,e2,hg,binOp,Op.intArith,Op.intBits]))
      |(cases he;exact fH h (by simp[execOp,aP,e1,e2,hg,binOp,Op.intCmp]))
      |(split at he
        ·cases he
        ·cases he
         rename_i h0
         exact ec h (by simp[execOp,aP,e1,e2,hg,binOp,Op.intDiv,h0]))
   ·cases he
 ·rename_i s1 s2
  have e1:=dO hx
  have e2:=dO hy
  have hg:(eqGuard b t x y (Value.string s1) (Value.string s2)).run P w= .ok () w:=cJ (by simp) (by simp) w
  cases b<;>simp only[oA]at he<;>
   first
    |(cases he;done)
    |(cases he;exact fH h (by simp[execOp,aP,e1,e2,hg,binOp,Op.stringOp]))
    |(split at he
      ·cases he
      ·cases he
       rename_i h0
       exact tQ h (by simp only[execOp,aP,e1,e2,hg,binOp,Op.stringOp,Sem.run_bind,Result.andThen_ok,h0,if_false];rfl))
end
end
section
section
variable {C:Cx} {P:Program} {E:Env} {tm:Array Value} {st:St} {G:Gh} {w:World} {ρ:Operand→Value} {o:Oper}
theorem zM (h:Rel C tm st G w) {t:TypeId} {x:Operand} {b:Bool} (aP:o.op= .unOp .not t x) (hx:RepT C st.os G w (ρ x) (.bool b)):
  bM C tm st G w (.bool (!b)) [] ((execOp ρ o).run P w):=fH h (by simp[execOp,aP,inv_bool hx,Op.unary])
theorem yd (h:Rel C tm st G w) {s t:TypeId} {x:Operand} {k k':IntKind} {n:Int} (aP:o.op= .convert s t x) (hs:(P.underlying s).isSome=true) (ht:Do P t k=true)
  (hx:RepT C st.os G w (ρ x) (.int k' n)):bM C tm st G w (.int k (k.wrap n)) [] ((execOp ρ o).run P w):=by
 unfold Do at ht
 split at ht
 ·rename_i k2 hk
  simp at ht
  subst ht
  cases e:P.underlying s with
  |none=>simp[e]at hs
  |some d=>exact ec h (by simp[execOp,aP,bq hx,convert,run_underlying e,run_underlying hk,Conv.intToInt])
 ·cases ht
theorem zN (h:Rel C tm st G w) {x:Operand} {j:Nat} {ds:List D} (aP:o.op= .extract x j) (hj:j<ds.length)
  (hx:RepT C st.os G w (ρ x) (.tup ds)) (hd:∀ id,id∈refsD (.tup ds)→isDead (st.os.getD id .gone)=false):
  bM C tm st G w (ds.getD j .undef) [] ((execOp ρ o).run P w):=by
 obtain⟨vs,h1,h2,h3⟩:=hx
 have h4:=h3 j hj
 have hm:=mem_getD hj
 generalize ds.getD j .undef=d at h4 hm
 have hr:RepT C st.os G w (vs.getD j undef) d∧refsD d=refs1 d:=by
  cases d<;>first |exact⟨h4,rfl⟩ |exact h4.elim
 refine .val h (v':=vs.getD j undef) ?_ hr.1 (fun id hid=>hd id ?_)
 ·have:j<vs.size:=by omega
  simp[execOp,aP,h1,Instr.extract,this,zq2]
 ·rw[hr.2]at hid
  exact List.mem_flatMap.2 ⟨d,hm,hid⟩
theorem rQ {os:List Obj} {v:Value} {d:D} {n:Nat} (hv:RepT C os G w v d) (hn:ib d=some n):oE v n:=by
 cases d with
 |sl e nb l=>
  simp only[ib,zq5]at hn
  subst hn
  simp only[RepT,RepT1,RepT0]at hv
  cases hv with
  |slnil=>exact⟨none,0,rfl,Nat.le_refl _,fun _=>rfl,(fun x hx=>by cases hx)⟩
  |sl e ad c els k cs hk hsp hc=>exact⟨some ad,c,rfl,hc,(fun h=>by cases h),(fun x hx=>by cases hx;exact hsp)⟩
 |zs e nb=>
  simp only[ib,zq5]at hn
  subst hn
  simp only[RepT,RepT1,RepT0]at hv
  cases hv with
  |zsnil=>exact⟨none,0,rfl,Nat.le_refl _,fun _=>rfl,(fun x hx=>by cases hx)⟩
  |zs e ad k hk hsp=>exact⟨some ad,0,rfl,Nat.le_refl _,fun _=>rfl,(fun x hx=>by cases hx;exact hsp)⟩
 |own e id m=>
  simp only[ib,zq5]at hn
  subst hn
  exact hv.1
 |ownv e id off len=>
  simp only[ib,zq5]at hn
  subst hn
  exact hv.1
 |_=>simp[ib]at hn
theorem EO {α:Type} {a:Array α} {x:α} (h:a.toList=[x]):a= #[x]:=by rw[←Array.toList_inj];simpa using h
theorem Ds {α:Type} {a:Array α} {x y:α} (h:a.toList=[x,y]):a= #[x,y]:=by rw[←Array.toList_inj];simpa using h
theorem zO (h:Rel C tm st G w) {x:Operand} {args:Array Operand} {vh:Array TypeId} {t:TypeId} {d:D} {n:Nat} (aP:o.op= .call {callee:= .builtin .len,args:=args,argTypes:=vh})
  (ha:args.toList=[x]) (ht:vh.toList=[t]) (hu:(match P.underlying t with |some (.slice _)=>true |_=>false)=true)
  (hx:RepT C st.os G w (ρ x) d) (hn:ib d=some n):bM C tm st G w (.int .i64 n) [] ((execOp ρ o).run P w):=by
 cases EO ha
 cases EO ht
 obtain⟨a,c,e1,_⟩:=rQ hx hn
 cases e:P.underlying t with
 |none=>simp[e]at hu
 |some td=>
  cases td<;>simp[e]at hu
  exact ec h (by simp[execOp,aP,resolve,invoke,builtin,Builtin.len_,run_underlying e,e1,goInt])
theorem ka {t:TypeId} (h:tM P t=true):P.underlying t=some .string:=by
 unfold tM at h
 split at h
 ·assumption
 ·cases h
theorem gW {t e:TypeId} (h:vu P t e=true):P.underlying t=some (.slice e):=by
 unfold vu at h
 split at h
 ·rename_i e' he;simp at h;subst h;exact he
 ·cases h
theorem ye (h:Rel C tm st G w) {t:TypeId} {x i:Operand} {d1 d2 v:D} {ws:Wr} (aP:o.op= .index t x i) (ht:tM P t=true)
  (hx:RepT C st.os G w (ρ x) d1) (hi:RepT C st.os G w (ρ i) d2) (he:qC KS [d1,d2]=some (v,ws)):bM C tm st G w v ws ((execOp ρ o).run P w):=by
 unfold qC at he
 split at he
 ·rename_i s k n heq
  simp only[List.cons.injEq,and_true]at heq
  obtain⟨rfl,rfl⟩:=heq
  split at he
  ·rename_i hlt
   cases he
   refine ec h ?_
   have hl:n.toNat<s.size:=by omega
   have e1:s[n.toNat]? =some s[n.toNat]:=by simp[hl]
   have e2:s.get! n.toNat=s[n.toNat]:=by
    cases s with
    |mk a=>exact getElem!_pos a n.toNat hl
   simp[execOp,aP,Instr.index,dO hx,bq hi,asIntOf,run_underlying (ka ht),hlt.1,e1,e2]
  ·cases he
 ·cases he
theorem Hb {α:Type} {a:Array α} {x y z:α} (h:a.toList=[x,y,z]):a= #[x,y,z]:=by rw[←Array.toList_inj];simpa using h
theorem zP (h:Rel C tm st G w) {x y z:Operand} {args:Array Operand} {vh:Array TypeId} {d1 d2 d3 v:D} {ws:Wr} (mx:Bool)
  (aP:o.op= .call {callee:= .builtin (match mx with |true=> .max |false=> .min),args:=args,argTypes:=vh}) (ha:args.toList=[x,y,z])
  (hx:RepT C st.os G w (ρ x) d1) (hy:RepT C st.os G w (ρ y) d2) (hz:RepT C st.os G w (ρ z) d3) (he:Bp KS mx [d1,d2,d3]=some (v,ws)):bM C tm st G w v ws ((execOp ρ o).run P w):=by
 unfold Bp at he
 split at he
 ·rename_i k a k' b Ku c heq
  simp only[List.cons.injEq,and_true]at heq
  obtain⟨rfl,rfl,rfl⟩:=heq
  split at he
  ·rename_i hk
   obtain⟨rfl,rfl⟩:=hk
   cases Hb ha
   cases mx<;>cases he<;>refine ec h ?_
   ·simp[execOp,aP,resolve,invoke,builtin,Builtin.min_,bq hx,bq hy,bq hz,Builtin.min2,Gv]
    first |done |rfl |(congr 1)
   ·simp[execOp,aP,resolve,invoke,builtin,Builtin.max_,bq hx,bq hy,bq hz,Builtin.max2,Gv]
    first |done |rfl |(congr 1)
  ·cases he
 ·rename_i heq
  simp at heq
 ·cases he
theorem Bu (h:Rel C tm st G w) {x y:Operand} {args:Array Operand} {vh:Array TypeId} {d1 d2 v:D} {ws:Wr} (mx:Bool)
  (aP:o.op= .call {callee:= .builtin (match mx with |true=> .max |false=> .min),args:=args,argTypes:=vh}) (ha:args.toList=[x,y])
  (hx:RepT C st.os G w (ρ x) d1) (hy:RepT C st.os G w (ρ y) d2) (he:Bp KS mx [d1,d2]=some (v,ws)):bM C tm st G w v ws ((execOp ρ o).run P w):=by
 unfold Bp at he
 split at he
 ·rename_i heq
  simp at heq
 ·rename_i k a k' b heq
  simp only[List.cons.injEq,and_true]at heq
  obtain⟨rfl,rfl⟩:=heq
  split at he
  ·rename_i hk
   subst hk
   cases Ds ha
   cases mx<;>cases he<;>refine ec h ?_
   ·simp[execOp,aP,resolve,invoke,builtin,Builtin.min_,bq hx,bq hy,Builtin.min2]
   ·simp[execOp,aP,resolve,invoke,builtin,Builtin.max_,bq hx,bq hy,Builtin.max2]
  ·cases he
 ·cases he
end
end
section
theorem addr_add (a:Addr) (n:Nat) (h:a.spot=none):a.add n=⟨a.block,a.off+n,none⟩:=by
 unfold Addr.add
 split
 ·rename_i e;subst e;cases a;simp_all
 ·rfl
section
variable {C:Cx} {P:Program} {E:Env} {tm:Array Value} {st:St} {G:Gh} {w:World} {ρ:Operand→Value} {o:Oper} {V:Vw}
theorem rR (h:Rel C tm st G w) (hV:∀ id o,V id=o→o≠ .dead→st.os[id]? =some o) {v:Value} {d:D} {b:Bool} (hv:RepT C st.os G w v d) (hn:tD V d=some b):
  ∃ a n c,v= .slice a n c∧a.isNone=b:=by
 cases d with
 |sl e nb l=>
  simp only[tD,zq5]at hn
  subst hn
  simp only[RepT,RepT1,RepT0]at hv
  cases hv with
  |slnil=>exact⟨none,0,0,rfl,rfl⟩
  |sl e ad c els k cs hk hsp hc=>exact⟨some ad,_,c,rfl,rfl⟩
 |zs e nb=>
  simp only[tD,zq5]at hn
  subst hn
  simp only[RepT,RepT1,RepT0]at hv
  cases hv with
  |zsnil=>exact⟨none,0,0,rfl,rfl⟩
  |zs e ad=>exact⟨some ad,0,0,rfl,rfl⟩
 |own e id n=>
  simp only[tD]at hn
  split at hn
  ·rename_i e' nb l hid
   cases hn
   have hx:=hV id _ hid (by simp)
   have ho:=h.os id _ hx
   simp only[RepT,RepT1,RepT0,oAt_of hx,oSh]at hv
   rw[hv.2.2.2]
   obtain⟨k,xs,_,⟨_,h3⟩,_⟩:=ho
   rcases h3 with⟨_,h0,a,h1,h2,_⟩ |⟨h2,g,cap,cur,t,_,h1,_⟩
   ·exact⟨a,0,0,h1,h2.symm⟩
   ·exact⟨_,_,_,h1,by simp[h2]⟩
  ·rename_i e' nb l hid
   cases hn
   have hx:=hV id _ hid (by simp)
   have ho:=h.os id _ hx
   simp only[RepT,RepT1,RepT0,oAt_of hx,oSh]at hv
   rw[hv.2.2.2]
   simp only[ObjRel]at ho
   generalize (G id).1=u at ho
   cases ho with
   |slnil=>exact⟨none,0,0,rfl,rfl⟩
   |sl e ad c=>exact⟨some ad,_,c,rfl,rfl⟩
  ·cases hn
 |_=>simp[tD]at hn
theorem tR (d:Nat) {t e:TypeId} (ht:P.underlying t=some (.slice e)) (a:Option Addr) (n c:Nat):
  (Op.equalIn (d+1) t (.slice a n c) (.slice none 0 0)).run P w= .ok a.isNone w:=by
 cases a<;>simp[Op.equalIn,run_underlying ht]
theorem vB (h:Rel C tm st G w) (hV:∀ id o,V id=o→o≠ .dead→st.os[id]? =some o) {b:BinOp} {t t':TypeId} {x y:Operand} {d v:D} {ws:Wr} (neg:Bool) (aP:o.op= .binOp b t x y t')
  (hb:lF neg b=true) (hT:tL P t=true) (hy:vt y=true) (hρ:∀ c,y= .const c→ρ y=c)
  (hx:RepT C st.os G w (ρ x) d) (he:mE KS neg V [d]=some (v,ws)):bM C tm st G w v ws ((execOp ρ o).run P w):=by
 simp only[mE]at he
 split at he
 ·rename_i c hn
  cases he
  have Lv:ρ y= .slice none 0 0:=by
   unfold vt at hy
   split at hy
   ·exact hρ _ rfl
   ·cases hy
  obtain⟨a,n,cc,ex,ha⟩:=rR h hV hx hn
  have hg:(eqGuard b t x y (.slice a n cc) (.slice none 0 0)).run P w= .ok () w:=cJ (by simp) (by simp) w
  unfold tL at hT
  split at hT
  ·rename_i el e
   have hr:(Op.equal t (.slice a n cc) (.slice none 0 0)).run P w= .ok c w:=by rw[←ha];exact tR 9999 e a n cc
   refine fH h ?_
   cases neg<;>cases b<;>simp[lF]at hb<;>simp[execOp,aP,ex,Lv,hg,binOp,hr,vp]
  ·cases hT
 ·cases he
theorem EP {s:TypeId} {f off:Nat} (hs:(match P.underlying s with
   |some (.struct fs)=>match fs[f]? with
    |some fd=>fd.offset==off&&(match P.info? fd.type with |some i=>i.size !=0 |none=>false)
    |none=>false
   |_=>false)=true) (a:Addr) (ha:a.spot=none):(Instr.fieldAt s (.pointer (some a)) f).run P w= .ok (.pointer (some ⟨a.block,a.off+off,none⟩)) w:=by
 split at hs
 ·rename_i fs e
  split at hs
  ·rename_i fd hf
   simp only[zq3,beq_iff_eq]at hs
   obtain⟨rfl,h2⟩:=hs
   split at h2
   ·rename_i i hi
    have: ¬i.size=0:=by simpa using h2
    simp[Instr.fieldAt,run_underlying e,hf,Instr.sureAddr,fieldPlace,run_sizeOf hi,this,addr_add a _ ha]
   ·cases h2
  ·cases hs
 ·cases hs
theorem qJ (h:Rel C tm st G w) {x:Operand} {off:Nat} {d v:D} {ws:Wr} (hrun:∀ a:Addr,a.spot=none→ρ x= .pointer (some a)→(execOp ρ o).run P w= .ok (.value (.pointer (some ⟨a.block,a.off+off,none⟩))) w)
  (hx:RepT C st.os G w (ρ x) d∧∀ id,id∈refsD d→isDead (st.os.getD id .gone)=false) (he:oC KS off [d]=some (v,ws)):bM C tm st G w v ws ((execOp ρ o).run P w):=by
 cases d with
 |ela b i of=>
  simp only[oC,zq5,Prod.mk.injEq]at he
  obtain⟨rfl,rfl⟩:=he
  obtain⟨⟨a,e1,hsp⟩,hE⟩:=hx.1
  refine .val h (v':= .pointer (some ⟨a.block,a.off+off,none⟩)) ?_ ⟨⟨_,rfl,rfl⟩, ?_⟩ hx.2
  ·exact hrun a hsp e1
  ·rw[e1]at hE
   cases b with
   |sl e nb els=>
    obtain⟨h1,ad,c,k,h2,h3,h4⟩:=hE
    refine⟨h1,ad,c,k,h2,h3, ?_⟩
    simp only[Value.pointer.injEq,zq5]at h4
    subst h4
    simp[Nat.add_assoc]
   |own e id n=>
    simp only[ElaAt]at hE⊢
    split
    ·rename_i e' m ho
     simp only[ho]at hE
     obtain⟨h1,h2,h3,ad,cap,k,h4,h5,h6⟩:=hE
     refine⟨h1,h2,h3,ad,cap,k,h4,h5, ?_⟩
     simp only[Value.pointer.injEq,zq5]at h6
     subst h6
     simp[Nat.add_assoc]
    ·trivial
   |ownv e id Lw n=>
    simp only[ElaAt]at hE⊢
    split
    ·rename_i e' m ho
     simp only[ho]at hE
     obtain⟨h1,h2,h3,ad,cap,k,h4,h5,h6⟩:=hE
     refine⟨h1,h2,h3,ad,cap,k,h4,h5, ?_⟩
     simp only[Value.pointer.injEq,zq5]at h6
     subst h6
     simp[Nat.add_assoc]
    ·trivial
   |_=>exact hE.elim
 |ptr id of=>
  simp only[oC,zq5,Prod.mk.injEq]at he
  obtain⟨rfl,rfl⟩:=he
  obtain⟨⟨a,e1,hsp⟩,hE⟩:=hx.1
  refine .val h (v':= .pointer (some ⟨a.block,a.off+off,none⟩)) ?_ ⟨⟨_,rfl,rfl⟩, ?_⟩ hx.2
  ·exact hrun a hsp e1
  ·split
   ·rename_i n ho
    simp only[ho]at hE
    obtain⟨g,h1,h2⟩:=hE
    rw[e1]at h2
    simp only[Value.pointer.injEq,zq5]at h2
    subst h2
    exact⟨g,h1,rfl⟩
   ·trivial
 |rp cs of=>
  simp only[oC,zq5,Prod.mk.injEq]at he
  obtain⟨rfl,rfl⟩:=he
  have hr:=hx.1
  simp only[RepT,RepT1,RepT0]at hr
  generalize e1:ρ x=u at hr
  cases hr with
  |rp b cs of vals hp hok hcell hrep=>
   refine .val h (v':= .pointer (some ⟨b,of+off,none⟩)) ?_ (.rp b cs (of+off) vals hp hok hcell hrep) (fun id hid=>by simp[refsD,refs1,refs0,refsb]at hid)
   exact hrun ⟨b,of,none⟩ rfl e1
 |_=>simp[oC]at he
theorem zQ (h:Rel C tm st G w) {s:TypeId} {x:Operand} {f off:Nat} {d v:D} {ws:Wr} (aP:o.op= .fieldAddr s x f)
  (hs:(match P.underlying s with
   |some (.struct fs)=>match fs[f]? with
    |some fd=>fd.offset==off&&(match P.info? fd.type with |some i=>i.size !=0 |none=>false)
    |none=>false
   |_=>false)=true)
  (hx:RepT C st.os G w (ρ x) d∧∀ id,id∈refsD d→isDead (st.os.getD id .gone)=false) (he:oC KS off [d]=some (v,ws)):bM C tm st G w v ws ((execOp ρ o).run P w):=
 qJ h (fun a hsp e1=>by simp only[execOp,aP,e1,Sem.run_bind,EP hs a hsp,Result.andThen_ok,Sem.run_pure]) hx he
theorem yf (h:Rel C tm st G w) {t:TypeId} {x:Operand} {ik:IntKind} {i:Int} {off:Nat} {d v:D} {ws:Wr} (aP:o.op= .indexAddr t x (.const (.int ik i))) (hρ:∀ c,ρ (.const c)=c)
  (hs:(match P.underlying t with
   |some (.array n e)=>decide (0≤i)&&decide (i<(n:Int))&&(match P.info? e with |some jA=>jA.size !=0&&i.toNat*jA.size==off |none=>false)
   |_=>false)=true)
  (hx:RepT C st.os G w (ρ x) d∧∀ id,id∈refsD d→isDead (st.os.getD id .gone)=false) (he:oC KS off [d]=some (v,ws)):bM C tm st G w v ws ((execOp ρ o).run P w):=by
 split at hs
 ·rename_i n e hu
  simp only[zq3,decide_eq_true_eq]at hs
  obtain⟨⟨h1,h2⟩,h3⟩:=hs
  split at h3
  ·rename_i jA hi
   simp only[zq3,bne_iff_ne,ne_eq,beq_iff_eq]at h3
   obtain⟨h3,rfl⟩:=h3
   exact qJ h (fun a hsp e1=>by simp[execOp,aP,e1,Instr.indexAt,Instr.sureAddr,hρ,asIntOf,run_underlying hu,h1,h2,run_sizeOf hi,addr_add a _ hsp]) hx he
  ·cases h3
 ·cases hs
theorem yg (h:Rel C tm st G w) (hT:tP C P) {t e:TypeId} {x i:Operand} {d1 d2 v:D} {ws:Wr} (aP:o.op= .indexAddr t x i) (ht:vu P t e=true) (ni:(C.ty e).isSome=true)
  (hx:RepT C st.os G w (ρ x) d1∧∀ id,id∈refsD d1→isDead (st.os.getD id .gone)=false) (hi:RepT C st.os G w (ρ i) d2) (he:qE KS e [d1,d2]=some (v,ws)):bM C tm st G w v ws ((execOp ρ o).run P w):=by
 unfold qE at he
 split at he
 ·rename_i y k n heq
  simp only[List.cons.injEq,and_true]at heq
  obtain⟨rfl,rfl⟩:=heq
  split at he
  ·rename_i e' m kp hlen
   split at he
   ·rename_i hee
    subst hee
    split at he
    ·rename_i hlt
     cases he
     obtain⟨a,c,ex,NZ,Lx,hsp⟩:=rQ hx.1 hlen
     cases ek:C.ty e with
     |none=>simp[ek]at ni
     |some el=>
      obtain⟨jA,gl,hsz,_,_⟩:=cI (hT e el ek).1
      cases a with
      |none=>have:=Lx rfl;omega
      |some ad=>
       have EQ:=hsp ad rfl (by omega)
       refine .val h (v':= .pointer (some ⟨ad.block,ad.off+n.toNat*el.ks.length,none⟩)) ?_ ?_ ?_
       ·simp[execOp,aP,Instr.indexAt,ex,bq hi,asIntOf,run_underlying (gW ht),hlt.1,hlt.2,run_sizeOf gl,hsz,addr_add ad _ EQ]
       ·refine⟨⟨_,rfl,rfl⟩, ?_⟩
        have Ep:=hx.1
        rw[ex]at Ep
        have hn:n.toNat<m:=by omega
        cases d1 with
        |sl e1 nb els=>
         simp only[tH,zq5]at kp
         subst kp
         simp only[ib,zq5]at hlen
         subst hlen
         exact⟨hn,ad,c,el,ek,Ep,rfl⟩
        |zs e1 nb=>
         simp only[ib,zq5]at hlen
         omega
        |own e1 id m1=>
         simp only[tH,zq5]at kp
         subst kp
         simp only[ib,zq5]at hlen
         subst hlen
         simp only[ElaAt]
         split
         ·rename_i e2 m2 ho
          simp only[RepT,RepT1,RepT0,ho]at Ep
          obtain⟨_,h1,h2,h3⟩:=Ep
          subst h1 h2
          exact⟨rfl,rfl,hn,ad,c,el,ek,h3.symm,rfl⟩
         ·trivial
        |ownv e1 id o1 m1=>
         simp only[tH,zq5]at kp
         subst kp
         simp only[ib,zq5]at hlen
         subst hlen
         simp only[ElaAt]
         split
         ·rename_i e2 m2 ho
          simp only[RepT,RepT1,RepT0,ho]at Ep
          obtain⟨_,h1,h2,a0,c0,k0,h3,h4,a',h5,h6,h7,h8⟩:=Ep
          subst h1
          rw[ek]at h3
          cases h3
          simp only[Value.slice.injEq,true_and]at h5
          obtain⟨h5,h9⟩:=h5
          subst h5
          have h10:=h8 (by omega)
          cases a0 with
          |none=>simp at h10
          |some Ly=>
           simp only[Option.map_some,zq5]at h10
           subst h10
           refine⟨rfl,h2,hn,Ly,c0,el,ek,h4, ?_⟩
           simp[Nat.add_mul,Nat.add_assoc]
         ·trivial
        |_=>simp[tH]at kp
       ·intro id hid
        have hr:refsD (.ela d1 n.toNat 0)=refsD d1:=by
         cases d1<;>first |rfl |(simp[tH]at kp;done)
        exact hx.2 id (hr▸hid)
    ·cases he
   ·cases he
  ·cases he
 ·cases he
end
end
section
theorem eta_fits {s:Sk} {d:D} (h:fits s d=true):eta s d=d:=by
 cases s<;>cases d<;>simp_all [fits,eta,D.i,D.b,D.s,D.nb,D.els,D.fi,D.caps]
theorem fitsL_spec:∀ {ks:List Sk} {ds:List D},fitsL ks ds=true→ds.length=ks.length∧∀ j (k:Sk),ks[j]? =some k→fits k (ds.getD j .undef)=true
 |[],[],_=>⟨rfl,fun j k hj=>by simp at hj⟩
 |k::ks,d::ds,h=>by
  simp only[fitsL,zq3]at h
  obtain⟨h1,h2⟩:=fitsL_spec h.2
  refine⟨by simp[h1],fun j k' hj=> ?_⟩
  cases j with
  |zero=>simp at hj;subst hj;simpa using h.1
  |succ j=>simpa using h2 j k' (by simpa using hj)
 |[],_::_,h=>by simp[fitsL]at h
 |_::_,[],h=>by simp[fitsL]at h
theorem fits_pure {s:Sk} {d:D} (h:fits s d=true):pure0 d=true:=by
 cases s<;>cases d<;>simp_all [fits,pure0]
theorem fP {ks:List Sk} {d:D} (h:fitsL ks [d]=true):ks.length=1∧∃ s,ks[0]? =some s∧fits s d=true:=by
 obtain⟨h1,h2⟩:=fitsL_spec h
 cases ks with
 |nil=>simp at h1
 |cons s r=>exact⟨h1.symm,s,rfl,by simpa using h2 0 s rfl⟩
theorem Vk.bI {k:Vk} {d:D} (h:k.fits d=true):∀ (j:Nat) (s:Sk),k.ks[j]? =some s→GD.fits s (d.cell j)=true:=by
 intro j s hs
 cases hk:k.agg with
 |true=>
  cases d with
  |agg ds=>
   simp only[Vk.fits,hk]at h
   exact (fitsL_spec h).2 j s hs
  |_=>simp[Vk.fits,hk]at h
 |false=>
  simp only[Vk.fits,hk]at h
  obtain⟨h1,s',h2,h3⟩:=fP h
  have:j=0:=by
   have:=(zq6.1 hs).1
   omega
  subst this
  rw[h2]at hs
  cases hs
  cases d<;>first |exact h3 |(cases s<;>simp[GD.fits]at h3)
theorem Vk.bU {k:Vk} {d:D} (h:k.fits d=true):(k.agg=true∧∃ ds,d= .agg ds∧ds.length=k.ks.length)∨(k.agg=false∧k.ks.length=1∧pure0 d=true∧∀ l,d≠ .agg l):=by
 cases hk:k.agg with
 |true=>
  cases d with
  |agg ds=>
   simp only[Vk.fits,hk]at h
   exact .inl ⟨rfl,ds,rfl,(fitsL_spec h).1⟩
  |_=>simp[Vk.fits,hk]at h
 |false=>
  simp only[Vk.fits,hk]at h
  obtain⟨h1,s',h2,h3⟩:=fP h
  refine .inr ⟨rfl,h1,fits_pure h3, ?_⟩
  rintro l rfl
  cases s'<;>simp[GD.fits]at h3
theorem bP:∀ (ks:List Sk) (d:D) (off:Nat),(bK ks d off).length=ks.length
 |[],_,_=>rfl
 |k::ks,d,off=>by simp[bK,bP ks d (off+1)]
theorem eg:∀ (ks:List Sk) (d:D) (off j:Nat),j<ks.length→(∀ i (s:Sk),ks[i]? =some s→fits s (d.cell (off+i))=true)→(bK ks d off).getD j .undef=d.cell (off+j)
 |[],_,_,_,h,_=>by simp at h
 |k::ks,d,off,0,h,hf=>by
  simp only[bK,List.getD_cons_zero,Nat.add_zero]
  exact eta_fits (hf 0 k rfl)
 |k::ks,d,off,j+1,h,hf=>by
  simp only[bK,List.getD_cons_succ]
  rw[eg ks d (off+1) j (by simpa using h) (fun i s hs=>by have:=hf (i+1) s (by simpa using hs);rwa [show off+(i+1)=off+1+i by omega]at this)]
  congr 1;omega
section
variable {C:Cx} {P:Program} {E:Env} {tm:Array Value} {st:St} {G:Gh} {w:World} {ρ:Operand→Value} {o:Oper} {V:Vw}
theorem run_loadVar {t:TypeId} {k:Vk} (hs:szOk P t k=true) (w:World) (a:Addr) (ha:a.spot=none) (f:Nat→Value)
  (hf:∀ j,j<k.ks.length→w.cell? ⟨a.block,a.off+j,none⟩=some (f j)):
  (loadVar t a).run P w= .ok (match k.agg with |true=> .agg ((List.range k.ks.length).map f).toArray |false=>f 0) w:=by
 obtain⟨i,hi,hsz,hag,h1⟩:=cI hs
 unfold loadVar
 rw[Sem.run_bind,qI hag]
 cases e:k.agg with
 |true=>
  have:=run_loadCells (P:=P) w a i.size f (fun j hj=>by rw[addr_add a j ha];exact hf j (by omega))
  rw[hsz]at this
  simp[run_sizeOf hi,hsz,this]
 |false=>
  have:=hf 0 (by have:=h1 e;omega)
  have ea:(⟨a.block,a.off+0,none⟩:Addr)=a:=by cases a;simp_all
  rw[ea]at this
  simp[this]
theorem yh (h:Rel C tm st G w) (hV:∀ id o,V id=o→o≠ .dead→st.os[id]? =some o) {v:Value} {i off:Nat} {b:D} {e:TypeId} {l:List D}
  (hE:ElaAt C st.os G w v i off b) (hr:h_ V b=some (e,l)):∃ (el:Vk) (blk base:Nat) (vals:Nat→Value),C.ty e=some el∧v= .pointer (some ⟨blk,base+off,none⟩)∧i<l.length∧el.fits (l.getD i .undef)=true∧
   ∀ j,j<el.ks.length→w.cell? ⟨blk,base+j,none⟩=some (vals j)∧RepV C.ty w (okB C st.os G w) (vals j) ((l.getD i .undef).cell j):=by
 have vC:∀ {ad:Addr} {c n:Nat} {nb:Bool} {l:List D} {i:Nat} {k:Vk},C.ty e=some k→RepV C.ty w (okB C st.os G w) (.slice (some ad) n c) (.sl e nb l)→i<l.length→
   ∃ vals:Nat→Value,k.fits (l.getD i .undef)=true∧∀ j,j<k.ks.length→w.cell? ⟨ad.block,ad.off+i*k.ks.length+j,none⟩=some (vals j)∧RepV C.ty w (okB C st.os G w) (vals j) ((l.getD i .undef).cell j):=by
  intro ad c n nb l i k hk hR hi
  cases hR with
  |sl e ad c els k' cs hk' hsp hc hf hok hcell hrep=>
   rw[hk]at hk'
   cases hk'
   refine⟨fun j=>cs i j,hf _ (mem_getD hi),fun j hj=>⟨?_,hrep i j hi hj⟩⟩
   rw[←hcell i j hi hj,Nat.add_assoc]
 have tS:∀ {id:Nat} {nb:Bool} {l:List D} {i:Nat} {k:Vk} {ad:Addr} {cap:Nat},st.os[id]? =some (.arr e nb l)→C.ty e=some k→i<l.length→(G id).1= .slice (some ad) l.length cap→
   ∃ vals:Nat→Value,k.fits (l.getD i .undef)=true∧∀ j,j<k.ks.length→w.cell? ⟨ad.block,ad.off+i*k.ks.length+j,none⟩=some (vals j)∧RepV C.ty w (okB C st.os G w) (vals j) ((l.getD i .undef).cell j):=by
  intro id nb l i k ad cap hx hk hi hg
  obtain⟨k',xs,hk',⟨h2,h3⟩,hf,hrep⟩:=h.os id _ hx
  rw[hk]at hk'
  cases hk'
  rcases h3 with⟨_,h0,_⟩ |⟨_,g,Hc,cur,t,_,h4,h5,h6,h7,h8,h9⟩
  ·omega
  ·rw[hg]at h4
   simp only[Value.slice.injEq,zq5]at h4
   obtain⟨rfl,_,rfl⟩:=h4
   refine⟨fun j=>xs.getD (i*k.ks.length+j) undef,hf _ (mem_getD hi),fun j hj=>⟨?_,hrep i j hi hj⟩⟩
   have hlt:i*k.ks.length+j<l.length*k.ks.length:=by
    have:(i+1)*k.ks.length≤l.length*k.ks.length:=Nat.mul_le_mul_right _ hi
    rw[Nat.add_mul]at this
    omega
   have iE:i*k.ks.length+j<cur.size:=by
    have:l.length*k.ks.length≤cap*k.ks.length:=Nat.mul_le_mul_right _ h6
    omega
   rw[cell_of_row w g _ cur t (0,0) h5,h9]
   simp[zq1,List.getElem?_take,hlt,iE]
 cases b with
 |sl e1 nb els=>
  simp only[h_,zq5,Prod.mk.injEq]at hr
  obtain⟨rfl,rfl⟩:=hr
  obtain⟨h1,ad,c,k,h2,h3,h4⟩:=hE
  obtain⟨vals,h5,h6⟩:=vC h2 h3 h1
  exact⟨k,ad.block,ad.off+i*k.ks.length,vals,h2,by rw[h4,Nat.add_assoc],h1,h5,h6⟩
 |own e1 id n=>
  simp only[h_]at hr
  split at hr
  ·rename_i e2 nb els hid
   cases hr
   have hx:=hV id _ hid (by simp)
   simp only[ElaAt,oAt_of hx,oSh]at hE
   obtain⟨rfl,rfl,h1,ad,cap,k,h2,h3,h4⟩:=hE
   obtain⟨vals,h5,h6⟩:=tS hx h2 h1 h3
   exact⟨k,ad.block,ad.off+i*k.ks.length,vals,h2,by rw[h4,Nat.add_assoc],h1,h5,h6⟩
  ·rename_i e2 nb els hid
   cases hr
   have hx:=hV id _ hid (by simp)
   simp only[ElaAt,oAt_of hx,oSh]at hE
   obtain⟨rfl,rfl,h1,ad,cap,k,h2,h3,h4⟩:=hE
   have ho:=h.os id _ hx
   simp only[ObjRel]at ho
   rw[h3]at ho
   obtain⟨vals,h5,h6⟩:=vC h2 ho h1
   exact⟨k,ad.block,ad.off+i*k.ks.length,vals,h2,by rw[h4,Nat.add_assoc],h1,h5,h6⟩
  ·cases hr
 |ownv e1 id o1 n=>
  have sub:∀ {l:List D},o1+n≤l.length→i<n→((l.drop o1).take n).getD i .undef=l.getD (o1+i) .undef∧i<((l.drop o1).take n).length:=by
   intro l h1 h2
   refine⟨by simp[zq1,List.getElem?_take,h2],by simp;omega⟩
  simp only[h_]at hr
  split at hr
  ·rename_i e2 nb els hid
   cases hr
   have hx:=hV id _ hid (by simp)
   simp only[ElaAt,oAt_of hx,oSh]at hE
   obtain⟨rfl,h0,h1,ad,cap,k,h2,h3,h4⟩:=hE
   obtain⟨vals,h5,h6⟩:=tS (i:=o1+i) hx h2 (by omega) h3
   obtain⟨s1,s2⟩:=sub (l:=els) h0 h1
   rw[←s1]at h5 h6
   exact⟨k,ad.block,ad.off+(o1+i)*k.ks.length,vals,h2,by rw[h4,Nat.add_assoc],s2,h5,h6⟩
  ·rename_i e2 nb els hid
   cases hr
   have hx:=hV id _ hid (by simp)
   simp only[ElaAt,oAt_of hx,oSh]at hE
   obtain⟨rfl,h0,h1,ad,cap,k,h2,h3,h4⟩:=hE
   have ho:=h.os id _ hx
   simp only[ObjRel]at ho
   rw[h3]at ho
   obtain⟨vals,h5,h6⟩:=vC (i:=o1+i) h2 ho (by omega)
   obtain⟨s1,s2⟩:=sub (l:=els) h0 h1
   rw[←s1]at h5 h6
   exact⟨k,ad.block,ad.off+(o1+i)*k.ks.length,vals,h2,by rw[h4,Nat.add_assoc],s2,h5,h6⟩
  ·cases hr
 |_=>exact hE.elim
theorem mN {E:Env} (hE:E.ty=C.ty) {e:TypeId} {off:Nat} {k el:Vk} (h:mD E e off k=true) (he:C.ty e=some el):
  off+k.ks.length≤el.ks.length∧(∀ j (s:Sk),k.ks[j]? =some s→el.ks[off+j]? =some s)∧(k.agg=false→k.ks.length=1):=by
 unfold mD at h
 rw[hE,he]at h
 simp only[zq3,beq_iff_eq,Nat.ble_eq,Bool.or_eq_true]at h
 obtain⟨⟨h1,h2⟩,h3⟩:=h
 refine⟨h1,fun j s hs=> ?_,fun hk=> ?_⟩
 ·have hj:=(zq6.1 hs).1
  rw[←h2]at hs
  simp only[List.getElem?_take,hj,if_true,List.getElem?_drop]at hs
  exact hs
 ·rcases h3 with h3 |h3
  ·rw[hk]at h3;cases h3
  ·exact h3
theorem kW (h:Rel C tm st G w) {t:TypeId} {x:Operand} {k:Vk} {cs:List D} {off b:Nat} {v:D} {ws:Wr} {vals:Nat→Value} (aP:o.op= .load t x) (hs:szOk P t k=true)
  (hx:ρ x= .pointer (some ⟨b,off,none⟩)) (hcell:∀ j,j<cs.length→w.cell? ⟨b,j,none⟩=some (vals j))
  (hrep:∀ j,j<cs.length→RepT0 C st.os G w (vals j) (cs.getD j .undef)) (hd:∀ id,id∈refsL cs→isDead (st.os.getD id .gone)=false)
  (he:fM KS k off cs=some (v,ws)):bM C tm st G w v ws ((execOp ρ o).run P w):=by
 unfold fM at he
 split at he
 ·rename_i hle
  have LA:off+k.ks.length≤cs.length:=by simpa using hle
  have hl:=run_loadVar hs w ⟨b,off,none⟩ rfl (fun j=>vals (off+j)) (fun j hj=>hcell (off+j) (by omega))
  have hrun:∀ u,(match k.agg with |true=>Value.agg ((List.range k.ks.length).map fun j=>vals (off+j)).toArray |false=>vals (off+0))=u→(execOp ρ o).run P w= .ok (.value u) w:=by
   rintro u rfl
   simp only[execOp,aP,hx,Instr.loadAt,Instr.sureAddr,Sem.run_bind,Sem.run_pure,Result.andThen_ok,hl]
  obtain⟨_,_,_,_,h1⟩:=cI hs
  cases hk:k.agg with
  |true=>
   simp only[hk]at he hrun
   cases he
   refine .val h (hrun _ rfl) ⟨_,rfl,by simp;omega,fun j hj=> ?_⟩ (fun id hid=>hd id ?_)
   ·have hj':j<k.ks.length:=by simp at hj;omega
    have:=hrep (off+j) (by omega)
    simpa[zq1,List.getElem?_take,hj',zq2]using this
   ·simp only[refsD,refs1,refsL,List.mem_flatMap]at hid⊢
    obtain⟨d,hd,hi⟩:=hid
    exact⟨d,List.mem_of_mem_drop (List.mem_of_mem_take hd),hi⟩
  |false=>
   simp only[hk]at he hrun
   cases he
   have hlt:off<cs.length:=by have:=h1 hk;omega
   have hr:=hrep off hlt
   refine .val h (hrun _ rfl) hr.up (fun id hid=>hd id ?_)
   refine List.mem_flatMap.2 ⟨_,mem_getD hlt, ?_⟩
   generalize cs.getD off .undef=d at hr hid
   cases d<;>first |exact hid |exact hr.elim
 ·cases he
theorem kX {s:Sk} {lo n i:Nat} {cs:List D} (h:(Nat.ble (lo+n) cs.length&&((cs.drop lo).take n).all (fits s))=true) (hi:i<n):lo+i<cs.length∧fits s (cs.getD (lo+i) .undef)=true:=by
 simp only[zq3,Nat.ble_eq]at h
 refine⟨by omega, ?_⟩
 have hlt:i<((cs.drop lo).take n).length:=by simp;omega
 have:=List.all_eq_true.1 h.2 _ (List.getElem_mem hlt)
 have e:cs.getD (lo+i) .undef=((cs.drop lo).take n)[i]:=by
  have hl:lo+i<cs.length:=by omega
  simp[zq1,hl]
 rw[e]
 exact this
theorem tT {k:Vk} {lo n i:Nat} {cs:List D} {v:D} {ws:Wr} (hi:i<n) (he:kU KS k lo n i cs=some (v,ws)):fM KS k (lo+i) cs=some (v,ws):=by
 unfold kU at he
 split at he
 ·rename_i s h1 h2
  split at he
  ·rename_i hc
   obtain⟨w1,w2⟩:=kX hc hi
   rw[eta_fits w2]at he
   unfold fM
   rw[h1,h2]
   have:Nat.ble (lo+i+[s].length) cs.length=true:=by simp;omega
   rw[this]
   exact he
  ·cases he
 ·cases he
theorem zR {e:TypeId} {lo n j:Nat} {k:Vk} (h:lv E e lo n k=true) (hj:j<n):mD E e (lo+j) k=true:=by
 unfold lv at h
 unfold mD
 cases hel:E.ty e with
 |none=>rw[hel]at h;cases h
 |some el=>
  rw[hel]at h
  simp only at h⊢
  simp only[zq3,Nat.ble_eq,List.all_eq_true,beq_iff_eq,Bool.not_eq_true']at h
  obtain⟨⟨h1,h2⟩,h3⟩:=h
  have hlt:lo+j<el.ks.length:=by omega
  have hm:el.ks[lo+j]∈(el.ks.drop lo).take n:=by
   have hl:j<((el.ks.drop lo).take n).length:=by simp;omega
   have:=List.getElem_mem hl
   simpa using this
  have hk:=h2 _ hm
  have hd:(el.ks.drop (lo+j)).take 1=[el.ks[lo+j]]:=by
   rw[List.drop_eq_getElem_cons hlt,List.take_succ_cons,List.take_zero]
  rw[hk,h3]
  simp only[List.length_cons,List.length_nil,hd,BEq.rfl,Bool.and_true,Nat.ble_eq,Bool.true_and,Bool.false_or,Nat.zero_add]
  exact hlt
theorem xc {os:List Obj} {v:Value} {id lo n i:Nat} (h:RepT C os G w v (.elp id lo n i)):i<n∧RepT C os G w v (.ptr id (lo+i)):=h
theorem yi (h:Rel C tm st G w) (hE:E.ty=C.ty) (hV:∀ id o,V id=o→o≠ .dead→st.os[id]? =some o) {t:TypeId} {x:Operand} {k:Vk} {d v:D} {ws:Wr} (aP:o.op= .load t x) (hs:szOk P t k=true)
  (hx:RepT C st.os G w (ρ x) d) (he:fq KS E k V [d]=some (v,ws)):bM C tm st G w v ws ((execOp ρ o).run P w):=by
 have hptr:∀ {id off:Nat},RepT C st.os G w (ρ x) (.ptr id off)→fq KS E k V [.ptr id off]=some (v,ws)→bM C tm st G w v ws ((execOp ρ o).run P w):=by
  intro id off hx he
  simp only[fq]at he
  split at he
  ·rename_i cs hid
   have mC:=hV id _ hid (by simp)
   have ho:=h.os id _ mC
   obtain⟨g,cells,t',h1,h2,h3,h4⟩:=ho
   simp only[RepT,RepT1,RepT0,oAt_of mC,oSh]at hx
   obtain⟨_,g',h5,h6⟩:=hx
   rw[h1]at h5
   simp only[Value.pointer.injEq,zq5,Addr.mk.injEq,and_true]at h5
   subst h5
   refine kW h aP hs h6 (vals:=fun j=>cells.getD j undef) (fun j hj=> ?_) (fun j hj=>(h4 j hj).1) (fun i hi=>h.rO id _ mC i hi) he
   rw[cell_of_row w g j cells t' (0,0) h2]
   have:j<cells.size:=by omega
   simp[zq2,this]
  ·rename_i cs hid
   have mC:=hV id _ hid (by simp)
   have ho:=h.os id _ mC
   simp only[ObjRel]at ho
   simp only[RepT,RepT1,RepT0,oAt_of mC,oSh]at hx
   obtain⟨_,g',h5,h6⟩:=hx
   rw[h5]at ho
   cases ho with
   |rp b cs oH vals hp hok hcell hrep=>
    refine kW h aP hs h6 hcell (fun j hj=>(hrep j hj).t0 (hp _ (mem_getD hj))) (fun i hi=> ?_) he
    obtain⟨d,hd,hi⟩:=List.mem_flatMap.1 hi
    rw[(fG (hp d hd)).1]at hi
    cases hi
  ·cases he
 have ER:∀ {b:D} {i off:Nat},RepT C st.os G w (ρ x) (.ela b i off)→fq KS E k V [.ela b i off]=some (v,ws)→bM C tm st G w v ws ((execOp ρ o).run P w):=by
  intro b i off hx he
  simp only[fq]at he
  split at he
  ·rename_i e l hr
   split at he
   ·rename_i hty
    cases he
    obtain⟨el,blk,base,vals,h1,h2,h3,h4,h5⟩:=yh h hV hx.2 hr
    obtain⟨h6,h7,h8⟩:=mN hE hty h1
    have hfit:∀ j (s:Sk),k.ks[j]? =some s→fits s ((l.getD i .undef).cell (off+j))=true:=fun j s hj=>h4 |>Vk.bI |>(· (off+j) s (h7 j s hj))
    have hl:=run_loadVar hs w ⟨blk,base+off,none⟩ rfl (fun j=>vals (off+j)) (fun j hj=>by have:=(h5 (off+j) (by omega)).1;simpa[Nat.add_assoc]using this)
    have hrun:∀ u,(match k.agg with |true=>Value.agg ((List.range k.ks.length).map fun j=>vals (off+j)).toArray |false=>vals (off+0))=u→(execOp ρ o).run P w= .ok (.value u) w:=by
     rintro u rfl
     simp only[execOp,aP,h2,Instr.loadAt,Instr.sureAddr,Sem.run_bind,Sem.run_pure,Result.andThen_ok,hl]
    have hcell:∀ j,j<k.ks.length→pure0 ((l.getD i .undef).cell (off+j))=true:=fun j hj=>fits_pure (hfit j k.ks[j] (zq4 hj))
    unfold etaV
    cases hk:k.agg with
    |true=>
     simp only[hk]at hrun
     refine .val h (hrun _ rfl) ⟨_,rfl,by simp[bP],fun j hj=> ?_⟩ (fun id hid=> ?_)
     ·rw[bP]at hj
      rw[eg _ _ _ _ hj hfit]
      have:=(h5 (off+j) (by omega)).2
      have e1:((List.range k.ks.length).map fun j=>vals (off+j)).toArray.getD j undef=vals (off+j):=by simp[zq2,hj]
      rw[e1]
      exact this.t0 (hcell j hj)
     ·simp only[refsD,refs1,refsL,List.mem_flatMap]at hid
      obtain⟨d,hd,hi⟩:=hid
      obtain⟨j,hj,rfl⟩:=List.getElem_of_mem hd
      rw[bP]at hj
      have e1:=eg _ (l.getD i .undef) off j hj hfit
      rw[zq1,zq4 (by rw[bP];exact hj)]at e1
      simp only[Option.getD_some]at e1
      rw[e1,(fG (hcell j hj)).1]at hi
      cases hi
    |false=>
     simp only[hk]at hrun
     have h9:=h8 hk
     obtain⟨s,hs1⟩:∃ s,k.ks=[s]:=by
      cases e1:k.ks with
      |nil=>simp[e1]at h9
      |cons s r=>simp[e1]at h9;exact⟨s,by simp[h9]⟩
     simp only[hs1]
     have hf0:=hfit 0 s (by simp[hs1])
     rw[Nat.add_zero]at hf0
     rw[eta_fits hf0]
     have:=(h5 off (by rw[hs1]at h6;simp at h6;omega)).2
     have hp:=fits_pure hf0
     refine .val h (hrun _ rfl) (this.t0 hp).up (fun id hid=> ?_)
     rw[(fG hp).2]at hid
     cases hid
   ·cases he
  ·cases he
 cases d with
 |elp id lo n i=>
  obtain⟨h1,h2⟩:=xc hx
  refine hptr h2 ?_
  simp only[fq]at he⊢
  split at he
  ·exact tT h1 he
  ·exact tT h1 he
  ·cases he
 |ela b i off=>exact ER hx he
 |elaP b i lo n j=>
  simp only[fq]at he
  split at he
  ·rename_i e l hr
   split at he
   ·rename_i hty
    exact ER hx.2 (by simp only[fq,hr,zR hty hx.1];exact he)
   ·cases he
  ·cases he
 |ptr id off=>exact hptr hx he
 |rp cs off=>
  simp only[fq]at he
  simp only[RepT,RepT1,RepT0]at hx
  generalize e1:ρ x=u at hx
  cases hx with
  |rp b cs off vals hp hok hcell hrep=>
   refine kW h aP hs e1 hcell (fun j hj=>(hrep j hj).t0 (hp _ (mem_getD hj))) (fun i hi=> ?_) he
   obtain⟨d,hd,hi⟩:=List.mem_flatMap.1 hi
   rw[(fG (hp d hd)).1]at hi
   cases hi
 |_=>simp[fq]at he
end
end
section
theorem foldl_none {α β:Type} (f:Option β→α→Option β) (hf:∀ a,f none a=none):∀ l:List α,l.foldl f none=none
 |[]=>rfl
 |a::l=>by rw[List.foldl_cons,hf];exact foldl_none f hf l
theorem oI {x y:D} {xs ys:List D} {b:Bool} (h:mB (x::xs) (y::ys)=some b):∃ p q,tF x y=some p∧mB xs ys=some q∧b=(p&&q):=by
 simp only[mB]at h
 split at h
 ·rename_i p hp
  split at h
  ·cases h
   exact⟨b,true,hp,rfl,by simp⟩
  ·split at h
   ·rename_i q hq
    cases h
    exact⟨p,q,hp,hq,rfl⟩
   ·cases h
 ·cases h
theorem zS {x y:D} {xs ys:List D} {p q:Bool} (h:tF x y=some p) (h':mB xs ys=some q):mB (x::xs) (y::ys)=some (p&&q):=by
 simp only[mB,h]
 split
 ·simp[mB]at h'
  simp[←h']
 ·simp[h']
theorem mO:∀ (n:Nat) (xs ys:List D) (b:Bool),n≤xs.length→xs.length=ys.length→mB xs ys=some b→
  ∃ b1 b2,mB (xs.take n) (ys.take n)=some b1∧mB (xs.drop n) (ys.drop n)=some b2∧b=(b1&&b2)
 |0,xs,ys,b,_,_,h=>⟨true,b,by simp[mB],by simpa using h,by simp⟩
 |n+1,x::xs,y::ys,b,hn,hl,h=>by
  obtain⟨p,q,hp,hq,rfl⟩:=oI h
  obtain⟨b1,b2,h1,h2,h3⟩:=mO n xs ys q (by simpa using hn) (by simpa using hl) hq
  exact⟨p&&b1,b2,by rw[List.take_succ_cons,List.take_succ_cons];exact zS hp h1,by simpa using h2,by rw[h3,Bool.and_assoc]⟩
 |n+1,[],_,_,hn,_,_=>by simp at hn
 |n+1,_::_,[],_,_,hl,_=>by simp at hl
theorem c_:∀ (Dt Es:List Sk) (ds:List D),fitsL (Dt++Es) ds=true→fitsL Dt (ds.take Dt.length)=true∧fitsL Es (ds.drop Dt.length)=true
 |[],Es,ds,h=>⟨rfl,by simpa using h⟩
 |k::Dt,Es,d::ds,h=>by
  simp only[List.cons_append,fitsL,zq3]at h
  obtain⟨h1,h2⟩:=c_ Dt Es ds h.2
  exact⟨by simp[fitsL,h.1,h1],by simpa using h2⟩
 |k::Dt,Es,[],h=>by simp[fitsL]at h
section
variable {C:Cx} {P:Program} {E:Env} {tm:Array Value} {st:St} {G:Gh} {w:World} {ρ:Operand→Value} {o:Oper} {V:Vw}
def b_ (P:Program) (t:TypeId) (cs:Array Value) (off n:Nat):Value:=
 match isAggT P t with
 |some true=> .agg (cs.extract off (off+n))
 |_=>cs.getD off undef
theorem eK {t:TypeId} {i:TypeInfo} (hi:P.info? t=some i) {b:Bool} (ha:isAggT P t=some b) (w:World) (cs:Array Value) (off:Nat) (hl:off+i.size≤cs.size) (h1:b=false→i.size=1):
  (part t cs off).run P w= .ok (b_ P t cs off i.size) w:=by
 unfold part b_
 rw[Sem.run_bind,qI ha,ha]
 cases b with
 |true=>simp[run_sizeOf hi]
 |false=>
  have:off<cs.size:=by have:=h1 rfl;omega
  simp[this,zq2]
def bn (os:List Obj) (C:Cx) (G:Gh) (w:World) (cs:Array Value) (off:Nat) (ds:List D):Prop:=off+ds.length≤cs.size∧∀ j,j<ds.length→RepT0 C os G w (cs.getD (off+j) undef) (ds.getD j .undef)
theorem bn.take {os:List Obj} {cs:Array Value} {off n:Nat} {ds:List D} (h:bn os C G w cs off ds) (hn:n≤ds.length):bn os C G w cs off (ds.take n):=by
 refine⟨by have:=h.1;simp;omega,fun j hj=> ?_⟩
 simp at hj
 have:=h.2 j (by omega)
 simpa[zq1,List.getElem?_take,(show j<n by omega)]using this
theorem bn.drop {os:List Obj} {cs:Array Value} {off n:Nat} {ds:List D} (h:bn os C G w cs off ds) (hn:n≤ds.length):bn os C G w cs (off+n) (ds.drop n):=by
 refine⟨by have:=h.1;simp;omega,fun j hj=> ?_⟩
 simp at hj
 have:=h.2 (n+j) (by omega)
 simpa[zq1,Nat.add_assoc]using this
theorem Du {os:List Obj} {u v:Value} {x y:D} {b:Bool} (hx:RepT0 C os G w u x) (hy:RepT0 C os G w v y) (h:tF x y=some b):
  (∃ k a c,u= .int k a∧v= .int k c∧b=(a==c))∨(∃ a c,u= .bool a∧v= .bool c∧b=(a==c))∨(∃ a c,u= .string a∧v= .string c∧b=(a.toList==c.toList)):=by
 unfold tF at h
 split at h
 ·split at h
  ·rename_i hk
   subst hk
   cases h
   have e1:=bq hx.up
   have e2:=bq hy.up
   exact .inl ⟨_,_,_,e1,e2,rfl⟩
  ·cases h
 ·cases h
  exact .inr (.inl ⟨_,_,inv_bool hx.up,inv_bool hy.up,rfl⟩)
 ·cases h
  exact .inr (.inr ⟨_,_,dO hx.up,dO hy.up,rfl⟩)
 ·cases h
def aggD:TypeDesc→Bool
 | .struct _=>true
 | .array _ _=>true
 |_=>false
theorem isAggT_of {t:TypeId} {d:TypeDesc} (h:P.underlying t=some d):isAggT P t=some (aggD d):=by
 unfold isAggT
 rw[h]
 cases d<;>rfl
def Dv (P:Program) (C:Cx) (os:List Obj) (G:Gh) (w:World) (n:Nat) (t:TypeId) (ks:List Sk):Prop:=
 ∀ (d:Nat),n≤d→∀ (cs cs':Array Value) (off oH:Nat) (ds jB:List D) (b:Bool),fitsL ks ds=true→fitsL ks jB=true→bn os C G w cs off ds→bn os C G w cs' oH jB→mB ds jB=some b→
  (Op.equalIn d t (b_ P t cs off ks.length) (b_ P t cs' oH ks.length)).run P w= .ok b w
def fr (P:Program) (n:Nat) (acc:Option (List Sk)) (f:Field):Option (List Sk):=
 match acc,dC P n f.type,P.info? f.type with
 |some a,some s,some i=>match f.name != "_" &&f.offset==a.length&&i.size==s.length with
  |true=>some (a++s)
  |false=>none
 |_,_,_=>none
theorem iF {n:Nat} {a:List Sk} {f:Field} {a':List Sk} (h:fr P n (some a) f=some a'):
  ∃ s i,dC P n f.type=some s∧P.info? f.type=some i∧f.name≠ "_" ∧f.offset=a.length∧i.size=s.length∧a'=a++s:=by
 simp only[fr]at h
 split at h
 ·rename_i a0 s0 i0 h5 h6 h7
  cases h5
  split at h
  ·rename_i hc
   cases h
   simp only[zq3,beq_iff_eq,bne_iff_ne,ne_eq]at hc
   exact⟨s0,i0,h6,h7,hc.1.1,hc.1.2,hc.2,rfl⟩
  ·cases h
 ·cases h
theorem iG {n:Nat}:∀ (fs:List Field) (a ks:List Sk),fs.foldl (fr P n) (some a)=some ks→∃ r,ks=a++r
 |[],a,ks,h=>by simp at h;exact⟨[],by simp[h]⟩
 |f::fs,a,ks,h=>by
  rw[List.foldl_cons]at h
  cases e:fr P n (some a) f with
  |none=>rw[e,foldl_none (fr P n) (fun a=>rfl) fs]at h;cases h
  |some a'=>
   rw[e]at h
   obtain⟨s,i,_,_,_,_,_,rfl⟩:=iF e
   obtain⟨r,rfl⟩:=iG fs _ ks h
   exact⟨s++r,by simp⟩
theorem lJ {n:Nat} {t:TypeId} {s:List Sk} (h:dC P n t=some s):∃ b,isAggT P t=some b∧(b=false→s.length=1):=by
 cases n with
 |zero=>simp[dC]at h
 |succ n=>
  simp only[dC]at h
  cases e:P.underlying t with
  |none=>simp[e]at h
  |some d=>
   refine⟨_,isAggT_of e, ?_⟩
   cases d<;>simp_all [aggD]<;>(subst h;rfl)
theorem nj {os:List Obj} {n:Nat} (ih:∀ t s,dC P n t=some s→Dv P C os G w n t s) (d:Nat) (hd:n≤d) (xs ys:Array Value):
  ∀ (fs:List Field) (a r:List Sk),fs.foldl (fr P n) (some a)=some (a++r)→∀ (ds jB:List D) (b:Bool),fitsL r ds=true→fitsL r jB=true→
   bn os C G w xs a.length ds→bn os C G w ys a.length jB→mB ds jB=some b→(Op.eqFields d xs ys fs).run P w= .ok b w
 |[],a,r,hf,ds,jB,b,h1,h2,hx,hy,he=>by
  simp at hf
  subst hf
  have e1:ds=[]:=List.length_eq_zero_iff.1 (fitsL_spec h1).1
  have e2:jB=[]:=List.length_eq_zero_iff.1 (fitsL_spec h2).1
  subst e1 e2
  simp[mB]at he
  subst he
  simp[Op.eqFields]
 |f::fs,a,r,hf,ds,jB,b,h1,h2,hx,hy,he=>by
  rw[List.foldl_cons]at hf
  cases e1:fr P n (some a) f with
  |none=>rw[e1,foldl_none (fr P n) (fun a=>rfl) fs]at hf;cases hf
  |some a'=>
   rw[e1]at hf
   obtain⟨s0,i0,h6,h7,xe,mK,hsz,rfl⟩:=iF e1
   obtain⟨r',hr'⟩:=iG fs _ _ hf
   rw[List.append_assoc,List.append_cancel_left_eq]at hr'
   subst hr'
   obtain⟨b0,Bv,hb1⟩:=lJ h6
   have l1:=(fitsL_spec h1).1
   have l2:=(fitsL_spec h2).1
   simp only[List.length_append]at l1 l2
   obtain⟨f1,f2⟩:=c_ s0 r' ds h1
   obtain⟨f3,f4⟩:=c_ s0 r' jB h2
   obtain⟨b1,b2,h8,h9,h10⟩:=mO s0.length ds jB b (by omega) (by omega) he
   have mC:=hx.1
   have LC:=hy.1
   have p1:=eK h7 Bv w xs f.offset (by omega) (fun e=>by rw[hsz];exact hb1 e)
   have p2:=eK h7 Bv w ys f.offset (by omega) (fun e=>by rw[hsz];exact hb1 e)
   rw[hsz,mK]at p1 p2
   have hq:=ih f.type s0 h6 d hd xs ys a.length a.length (ds.take s0.length) (jB.take s0.length) b1 f1 f3 (hx.take (by omega)) (hy.take (by omega)) h8
   have hrest:=nj ih d hd xs ys fs (a++s0) r' (by rw[hf,List.append_assoc]) (ds.drop s0.length) (jB.drop s0.length) b2 f2 f4
    (by rw[List.length_append];exact hx.drop (by omega)) (by rw[List.length_append];exact hy.drop (by omega)) h9
   rw[h10]
   simp only[Op.eqFields,xe,ne_eq,not_false_eq_true,if_true,Sem.run_bind,mK,p1,p2,Result.andThen_ok,hq,Sem.run_ite,Sem.run_pure,hrest]
   cases b1<;>simp
def iH (d:Nat) (e:TypeId) (n:Nat) (xs ys:Array Value):List Nat→Sem Bool
 |[]=>pure true
 |i::is=>do
  let a←part e xs (i*n)
  let b←part e ys (i*n)
  let r←Op.equalIn d e a b
  if (!r)=true then pure false else iH d e n xs ys is
theorem run_equalIn_array (d:Nat) (t e:TypeId) (len:Nat) (xs ys:Array Value) {i:TypeInfo} (ht:P.underlying t=some (.array len e)) (hi:P.info? e=some i):
  (Op.equalIn (d+1) t (.agg xs) (.agg ys)).run P w=(iH d e i.size xs ys (List.range' 0 len)).run P w:=by
 simp only[Op.equalIn,Sem.run_bind,run_underlying ht,Result.andThen_ok,run_sizeOf hi]
 rw[Std.Legacy.Range.forIn_eq_forIn_range']
 simp only[Std.Legacy.Range.size,Nat.sub_zero,Nat.add_sub_cancel,Nat.div_one]
 generalize List.range' 0 len=l
 induction l generalizing w with
 |nil=>simp[iH]
 |cons f fs ih=>
  simp only[List.forIn_cons,iH,Sem.run_bind,Sem.run_ite]
  generalize (part e xs (f*i.size)).run P w=r1
  cases r1 with
  |ok a w1=>
   simp only[Result.andThen_ok]
   generalize (part e ys (f*i.size)).run P w1=r2
   cases r2 with
   |ok b w2=>
    simp only[Result.andThen_ok]
    generalize (Op.equalIn d e a b).run P w2=r3
    cases r3 with
    |ok r w3=>
     cases r
     ·simp only[Result.andThen_ok,Bool.not_false,if_true,Sem.run_pure]
     ·simp only[Result.andThen_ok,Bool.not_true,Bool.false_eq_true,if_false,Sem.run_pure]
      exact ih
    |halt x w3=>simp[Result.andThen]
   |halt x w2=>simp[Result.andThen]
  |halt x w1=>simp[Result.andThen]
end
end
section
section
variable {C:Cx} {P:Program} {E:Env} {tm:Array Value} {st:St} {G:Gh} {w:World} {ρ:Operand→Value} {o:Oper} {V:Vw}
theorem fitsL_one {s:Sk} {ds:List D} (h:fitsL [s] ds=true):∃ x,ds=[x]∧fits s x=true:=by
 match ds,h with
 |[x],h=>exact⟨x,rfl,by simpa[fitsL]using h⟩
 |[],h=>simp[fitsL]at h
 |_::_::_,h=>simp[fitsL]at h
theorem oJ {os:List Obj} {d n:Nat} {e:TypeId} {s:List Sk} (hok:Dv P C os G w n e s) (hd:n≤d) {i:TypeInfo} (hi:P.info? e=some i) (hsz:i.size=s.length)
  {ag:Bool} (ha:isAggT P e=some ag) (h1:ag=false→s.length=1) (xs ys:Array Value) (a a':Nat):
  ∀ (len st:Nat) (ds jB:List D) (b:Bool),fitsL (List.replicate len s).flatten ds=true→fitsL (List.replicate len s).flatten jB=true→
   bn os C G w xs (st*s.length) ds→bn os C G w ys (st*s.length) jB→mB ds jB=some b→(iH d e i.size xs ys (List.range' st len)).run P w= .ok b w
 |0,st,ds,jB,b,f1,f2,hx,hy,he=>by
  have e1:ds=[]:=List.length_eq_zero_iff.1 (by simpa using (fitsL_spec f1).1)
  have e2:jB=[]:=List.length_eq_zero_iff.1 (by simpa using (fitsL_spec f2).1)
  subst e1 e2
  simp[mB]at he
  subst he
  simp[iH]
 |len+1,st,ds,jB,b,f1,f2,hx,hy,he=>by
  rw[List.replicate_succ,List.flatten_cons]at f1 f2
  have l1:=(fitsL_spec f1).1
  have l2:=(fitsL_spec f2).1
  rw[List.length_append]at l1 l2
  obtain⟨f1,f3⟩:=c_ _ _ _ f1
  obtain⟨f2,f4⟩:=c_ _ _ _ f2
  obtain⟨b1,b2,h8,h9,h10⟩:=mO s.length ds jB b (by omega) (by omega) he
  have mC:=hx.1
  have LC:=hy.1
  have p1:=eK hi ha w xs (st*s.length) (by omega) (fun e=>by rw[hsz];exact h1 e)
  have p2:=eK hi ha w ys (st*s.length) (by omega) (fun e=>by rw[hsz];exact h1 e)
  rw[hsz]at p1 p2
  have hq:=hok d hd xs ys (st*s.length) (st*s.length) _ _ b1 f1 f2 (hx.take (by omega)) (hy.take (by omega)) h8
  have ex:st*s.length+s.length=(st+1)*s.length:=by rw[Nat.add_mul,Nat.one_mul]
  have hrest:=oJ hok hd hi hsz ha h1 xs ys a a' len (st+1) _ _ b2 f3 f4 (ex▸hx.drop (by omega)) (ex▸hy.drop (by omega)) h9
  rw[h10]
  rw[hsz]at hrest⊢
  simp only[List.range'_succ,iH,Sem.run_bind,p1,p2,Result.andThen_ok,hq,Sem.run_ite,Sem.run_pure,hrest]
  cases b1<;>simp
theorem cK {os:List Obj} {cs:Array Value} {off n:Nat} {ds:List D} (h:bn os C G w cs off ds) (hn:ds.length=n):bn os C G w (cs.extract off (off+n)) 0 ds:=by
 subst hn
 have h1:=h.1
 refine⟨by simp;omega,fun j hj=> ?_⟩
 have:=h.2 j hj
 have e1:off+j<cs.size:=by omega
 simpa[zq2,Array.getElem?_extract,hj,e1,show j<min (off+ds.length) cs.size - off by omega]using this
theorem n8 {os:List Obj}:∀ (n:Nat) (t:TypeId) (ks:List Sk),dC P n t=some ks→Dv P C os G w n t ks
 |0,t,ks,h=>by simp[dC]at h
 |n+1,t,ks,h=>by
  intro d hd cs cs' off oH ds jB b h1 h2 hx hy he
  obtain⟨d,rfl⟩:∃ d',d=d'+1:=⟨d - 1,by omega⟩
  simp only[dC]at h
  have sc:∀ s td,ks=[s]→P.underlying t=some td→aggD td=false→∃ x y,RepT0 C os G w (cs.getD off undef) x∧RepT0 C os G w (cs'.getD oH undef) y∧tF x y=some b∧fits s x=true∧
    b_ P t cs off ks.length=cs.getD off undef∧b_ P t cs' oH ks.length=cs'.getD oH undef:=by
   intro s td hk hu hag
   subst hk
   obtain⟨x,rfl,f1⟩:=fitsL_one h1
   obtain⟨y,rfl,f2⟩:=fitsL_one h2
   obtain⟨p,q,e1,e2,e3⟩:=oI he
   simp[mB]at e2
   subst e2
   refine⟨x,y,by simpa using hx.2 0 (by simp),by simpa using hy.2 0 (by simp),by rw[e1,e3];simp,f1, ?_, ?_⟩<;>simp[b_,isAggT_of hu,hag]
  cases e:P.underlying t with
  |none=>simp[e]at h
  |some td=>
   cases td with
   |bool=>
    simp only[e,zq5]at h
    obtain⟨x,y,r1,r2,e0,f1,v1,v2⟩:=sc .bool _ h.symm e rfl
    rw[v1,v2]
    cases x<;>simp[fits]at f1
    cases y<;>simp[tF]at e0
    rw[inv_bool r1.up,inv_bool r2.up,run_equalIn_bool' _ _ _ _ _ e,←e0]
   |int k=>
    simp only[e,zq5]at h
    obtain⟨x,y,r1,r2,e0,f1,v1,v2⟩:=sc (.int k) _ h.symm e rfl
    rw[v1,v2]
    cases x<;>simp[fits]at f1
    cases y<;>simp[tF]at e0
    rw[bq r1.up,bq r2.up,←e0.1,run_equalIn_int _ _ _ _ _ _ _ e,←e0.2]
   |string=>
    simp only[e,zq5]at h
    obtain⟨x,y,r1,r2,e0,f1,v1,v2⟩:=sc .str _ h.symm e rfl
    rw[v1,v2]
    cases x<;>simp[fits]at f1
    cases y<;>simp[tF]at e0
    rw[dO r1.up,dO r2.up,run_equalIn_string _ _ _ _ _ e,←e0]
   |struct fs=>
    simp only[e]at h
    split at h
    ·rename_i hst
     have h':fs.toList.foldl (fr P n) (some [])=some ([]++ks):=h
     have Kx:P.fieldsOf t=fs:=by simp[Program.fieldsOf,e]
     have e':P.underlying t=some (.struct (P.fieldsOf t)):=by rw[Kx];exact e
     have va:∀ cs off,b_ P t cs off ks.length= .agg (cs.extract off (off+ks.length)):=by intro cs off;simp[b_,isAggT_of e,aggD]
     rw[va,va,run_equalIn_struct _ _ _ _ _ e' hst,Kx]
     exact nj (fun t s h=>n8 n t s h) d (by omega) _ _ fs.toList [] ks h' ds jB b h1 h2 (cK hx (fitsL_spec h1).1) (cK hy (fitsL_spec h2).1) he
    ·cases h
   |array len el=>
    simp only[e]at h
    split at h
    ·rename_i s i hs hi
     split at h
     ·rename_i hsz
      simp only[beq_iff_eq]at hsz
      cases h
      have va:∀ cs off,b_ P t cs off (List.replicate len s).flatten.length= .agg (cs.extract off (off+(List.replicate len s).flatten.length)):=by intro cs off;simp[b_,isAggT_of e,aggD]
      obtain⟨ag,ha,h3⟩:=lJ hs
      rw[va,va,run_equalIn_array _ _ _ _ _ _ e hi]
      have x1:=cK hx (fitsL_spec h1).1
      have y1:=cK hy (fitsL_spec h2).1
      exact oJ (n8 n el s hs) (by omega) hi hsz ha h3 _ _ 0 0 len 0 ds jB b h1 h2 (by simpa using x1) (by simpa using y1) he
     ·cases h
    ·cases h
   |_=>simp[e]at h
theorem zT (h:Rel C tm st G w) {b:BinOp} {t t':TypeId} {x y:Operand} {k:Vk} {d1 d2 v:D} {ws:Wr} (neg:Bool) (aP:o.op= .binOp b t x y t')
  (hb:lF neg b=true) (hk:dC P 100 t=some k.ks) (ha:isAggT P t=some k.agg) (hg:P.eqGuardType P.depth t=false)
  (hx:RepT C st.os G w (ρ x) d1) (hy:RepT C st.os G w (ρ y) d2) (he:yb KS neg k [d1,d2]=some (v,ws)):bM C tm st G w v ws ((execOp ρ o).run P w):=by
 simp only[yb]at he
 split at he
 ·rename_i hf
  simp only[zq3]at hf
  split at he
  ·rename_i c hc
   cases he
   have hok:=n8 (C:=C) (G:=G) (w:=w) (os:=st.os) 100 t k.ks hk
   cases hka:k.agg with
   |true=>
    rcases Vk.bU hf.1 with⟨_,ds,rfl,l1⟩ |⟨h',_⟩
    ·rcases Vk.bU hf.2 with⟨_,jB,rfl,l2⟩ |⟨h',_⟩
     ·simp only[Vk.fits,hka]at hf
      obtain⟨cs,e1,s1,r1⟩:=hx
      obtain⟨cs',e2,s2,r2⟩:=hy
      have:=hok 10000 (by omega) cs cs' 0 0 ds jB c hf.1 hf.2 ⟨by omega,by simpa using r1⟩ ⟨by omega,by simpa using r2⟩ hc
      have va:∀ (cs:Array Value),cs.size=k.ks.length→b_ P t cs 0 k.ks.length= .agg cs:=by intro cs hs;simp[b_,ha,hka,←hs]
      rw[va cs (by omega),va cs' (by omega)]at this
      have vi:=run_eqGuard_agg (P:=P) w b t x y cs cs' hg
      refine fH h ?_
      cases neg<;>cases b<;>simp[lF]at hb<;>simp[execOp,aP,e1,e2,vi,run_eql_struct,run_neq_struct,this,vp]
     ·rw[hka]at h';cases h'
    ·rw[hka]at h';cases h'
   |false=>
    simp only[Vk.fits,hka]at hf
    have Bw:RepT0 C st.os G w (ρ x) d1∧cellsOf d1=[d1]:=by
     obtain⟨_,s,_,h3⟩:=fP hf.1
     cases d1<;>first |exact⟨hx,rfl⟩ |(cases s<;>simp[GD.fits]at h3)
    have zU:RepT0 C st.os G w (ρ y) d2∧cellsOf d2=[d2]:=by
     obtain⟨_,s,_,h3⟩:=fP hf.2
     cases d2<;>first |exact⟨hy,rfl⟩ |(cases s<;>simp[GD.fits]at h3)
    rw[Bw.2,zU.2]at hc
    have:=hok 10000 (by omega) #[ρ x] #[ρ y] 0 0 [d1] [d2] c hf.1 hf.2 ⟨by simp,fun j hj=>by
     have:j=0:=by simpa using hj
     subst this;simpa using Bw.1⟩ ⟨by simp,fun j hj=>by
     have:j=0:=by simpa using hj
     subst this;simpa using zU.1⟩ hc
    have va:∀ (u:Value),b_ P t #[u] 0 k.ks.length=u:=by intro u;simp[b_,ha,hka]
    rw[va,va]at this
    refine fH h ?_
    obtain⟨p,q,e1,e2,e3⟩:=oI hc
    rcases Du Bw.1 zU.1 e1 with⟨k1,a1,c1,u1,u2,_⟩ |⟨a1,c1,u1,u2,_⟩ |⟨a1,c1,u1,u2,_⟩
    ·simp[mB]at e2
     rename_i hb1
     have CN:c=(a1==c1):=by rw[e3,e2,hb1];simp
     have vi:(eqGuard b t x y (Value.int k1 a1) (Value.int k1 c1)).run P w= .ok () w:=cJ (by simp) (by simp) w
     cases neg<;>cases b<;>simp[lF]at hb<;>simp[execOp,aP,u1,u2,vi,binOp,Op.intCmp,vp,CN,bne]
    ·have vi:(eqGuard b t x y (Value.bool a1) (Value.bool c1)).run P w= .ok () w:=cJ (by simp) (by simp) w
     rw[u1,u2]at this
     cases neg<;>cases b<;>simp[lF]at hb<;>simp[execOp,aP,u1,u2,vi,binOp,Op.equal,Op.maxDepth,this,vp]
    ·simp[mB]at e2
     rename_i hb1
     have CN:c=(a1.toList==c1.toList):=by rw[e3,e2,hb1];simp
     have vi:(eqGuard b t x y (Value.string a1) (Value.string c1)).run P w= .ok () w:=cJ (by simp) (by simp) w
     cases neg<;>cases b<;>simp[lF]at hb<;>simp[execOp,aP,u1,u2,vi,binOp,Op.stringOp,vp,CN]
  ·cases he
 ·cases he
end
end
section
section
variable {C:Cx} {P:Program} {E:Env} {tm:Array Value} {st:St} {G:Gh} {w:World} {ρ:Operand→Value} {o:Oper} {V:Vw}
abbrev bc (G:Gh) (id:Nat) (gh:Value×Option Nat):Gh:=fun j=>if j=id then gh else G j
theorem rS {os:List Obj} {id:Nat} {o':Obj} {gh:Value×Option Nat} {w':World} (hsz:w.heap.size≤w'.heap.size) (vg:∀ b,gh.2=some b→w.heap.size≤b) {b:Nat}
  (h:okB C os G w b):okB C (os.set id o') (bc G id gh) w' b:=by
 refine⟨by have:=h.1;omega,fun ⟨j,oj,hj,hl,hb⟩=> ?_,h.2.2⟩
 rw[List.getElem?_set]at hj
 by_cases e:id=j
 ·subst e
  simp only[bc,if_true]at hb
  have:=vg b hb
  have:=h.1
  omega
 ·have e': ¬j=id:=fun x=>e x.symm
  simp only[e,if_false]at hj
  simp only[bc,e',if_false]at hb
  exact h.2.1 ⟨j,oj,hj,hl,hb⟩
theorem iI {os:List Obj} {id i:Nat} (hid:os[id]? =some .dead) (hi:isDead (os.getD i .gone)=false):i≠id:=by
 rintro rfl
 simp[zq1,hid,isDead]at hi
theorem zV {os:List Obj} {id i:Nat} {o':Obj} {gh:Value×Option Nat} (hid:os[id]? =some .dead) (hi:isDead (os.getD i .gone)=false):
  (oAt (os.set id o') i=oAt os i∧bc G id gh i=G i)∨oAt (os.set id o') i= .no:=by
 have hne:=iI hid hi
 have hlt:id<os.length:=(zq6.1 hid).1
 left
 rw[cR hlt]
 simp[bc,hne]
theorem Rel.newObj (h:Rel C tm st G w) {id:Nat} {o':Obj} {gh:Value×Option Nat} {w':World} (hid:st.os[id]? =some .dead) (hd:isDead o'=false)
  (vg:∀ b,gh.2=some b→w.heap.size≤b∧b<w'.heap.size) (hsame:∀ b,b<w.heap.size→w'.heap[b]? =w.heap[b]?) (hsz:w.heap.size≤w'.heap.size)
  (ht:w'.tape=w.tape) (hos:w'.os=w.os) (hout:w'.output=w.output)
  (ho:ObjRel C (st.os.set id o') (bc G id gh) w' id o') (hro:∀ i,i∈refsO o'→isDead ((st.os.set id o').getD i .gone)=false):Rel C tm ⟨st.ts,st.os.set id o'⟩ (bc G id gh) w':=
 h.Em hid (.inl rfl) hd (fun _ b hb=> .inl (vg b hb)) (fun b hb _=>hsame b hb) hsz ht hos hout ho hro
theorem yj {ss:List Nat} {os:List Obj} (h:(ss.all fun s=>Nat.blt s os.length&&isDead (os.getD s .gone))=true):∀ s,s∈ss→os[s]? =some .dead:=by
 intro s hs
 have:=List.all_eq_true.1 h s hs
 simp only[zq3,Nat.blt_eq]at this
 have h2:=this.2
 rw[zq1]at h2
 rw[zq4 this.1]at h2⊢
 generalize st2:os[s]'this.1=x at h2
 cases x<;>simp[isDead]at h2
 rfl
theorem fQ (os:List Obj) (id:Nat) (o:Obj):wrL os [(id,o)]=os.set id o:=rfl
theorem nk (h:Rel C tm st G w) {s:Nat} (hs:st.os[s]? =some .dead) {cells:Array Value} {t:TypeId} {cs:List D} (hl:cells.size=cs.length)
  (hc:∀ j,j<cs.length→RepT0 C st.os G w (cells.getD j undef) (cs.getD j .undef)) (hp:cs.all cell0=true) (hr:∀ id,id∈refsL cs→isDead (st.os.getD id .gone)=false) {r:Result Next}
  (hrun:r= .ok (.value (.pointer (some ⟨w.heap.size,0,none⟩))) (w.alloc (.cells cells t))):bM C tm st G w (.ptr s 0) [(s,.var cs)] r:=by
 have hlt:s<st.os.length:=(zq6.1 hs).1
 have hrel:Rel C tm ⟨st.ts,st.os.set s (.var cs)⟩ (bc G s (.pointer (some ⟨w.heap.size,0,none⟩),some w.heap.size)) (w.alloc (.cells cells t)):=by
  refine h.newObj hs rfl (fun b hb=>by cases hb;simp) (fun b hb=>heap_alloc_old w _ b hb) (by simp) rfl rfl rfl ?_ (fun i hi=>b7 rfl (hr i hi))
  refine⟨w.heap.size,cells,t,by simp[bc],heap_alloc_new w _,hl,fun j hj=>⟨?_,List.all_eq_true.1 hp _ (mem_getD hj)⟩⟩
  refine (hc j hj).mono (fun b hb=>rS (by simp) (fun b hb=>by cases hb;exact Nat.le_refl _) hb) (fun b hb=>heap_alloc_old w _ b hb.1) (fun i hi=>zV hs (hr i (List.mem_flatMap.2 ⟨_,mem_getD hj,hi⟩)))
 refine⟨_,_,_,.inl hrun,hrel,⟨⟨_,rfl,rfl⟩, ?_⟩, ?_, ?_⟩
 ·rw[fQ,cR hlt]
  simp[oSh,bc]
 ·intro i hi
  simp[refsD,refs1,refs0]at hi
  subst hi
  simp[wrL,zq1,hlt,isDead]
 ·intro i hi
  simp[bc,iI hs hi]
theorem vD (h:Rel C tm st G w) {s:Nat} (hs:st.os[s]? =some .dead) {t:TypeId} {zero:List D} (aP:o.op= .alloc t) (hz:mJ P t zero=true):
  bM C tm st G w (.ptr s 0) [(s,.var zero)] ((execOp ρ o).run P w):=by
 unfold mJ at hz
 split at hz
 ·rename_i z e
  simp only[zq3]at hz
  obtain⟨h1,h2⟩:=eX hz.1
  cases ei:P.info? t with
  |none=>simp[ei]at e
  |some i=>
   simp[ei]at e
   have e2:∀ j,z.cells.toList.getD j undef=z.cells.getD j undef:=fun j=>by simp[zq2,zq1]
   refine nk h hs (t:=t) (cells:=z.cells) (by simpa using h1) (fun j hj=> ?_) hz.2 (fun id hid=> ?_) ?_
   ·have:=h2 j hj
    rw[e2]at this
    exact gw this st.os
   ·obtain⟨d,hd,hi⟩:=List.mem_flatMap.1 hid
    obtain⟨j,hj,rfl⟩:=List.getElem_of_mem hd
    have:=h2 j hj
    rw[zq1 (l:=zero),zq4 hj]at this
    simp only[Option.getD_some]at this
    rw[(gv this).2]at hi
    cases hi
   ·simp[execOp,aP,Instr.alloc,zeroValue,typeInfo,ei,e,newVar,newRow]
 ·cases hz
theorem oK {os:List Obj} {v:Value} {d:D} (h:RepT C os G w v d) (hc:(cellsOf d).all cell0=true):
  v.cells.size=(cellsOf d).length∧∀ j,j<(cellsOf d).length→RepT0 C os G w (v.cells.getD j undef) ((cellsOf d).getD j .undef):=by
 cases d with
 |agg cs=>
  obtain⟨cells,rfl,h1,h2⟩:=h
  exact⟨h1,h2⟩
 |tup _=>simp[cellsOf,cell0,pure0]at hc
 |_=>
  simp only[cellsOf,List.all_cons,List.all_nil,Bool.and_true]at hc
  have hv:v.cells= #[v]:=by
   simp only[RepT,RepT1]at h
   first
    |(simp[cell0,pure0]at hc;done)
    |(simp only[RepT0]at h
      first
       |(obtain⟨caps,ES,_,_⟩:=h;rw[ES];rfl)
       |(cases h<;>rfl)
       |(obtain⟨⟨a,c,rfl,_⟩,_⟩:=h;rfl))
  rw[hv]
  refine⟨rfl,fun j hj=> ?_⟩
  have:j=0:=by simpa[cellsOf]using hj
  subst this
  exact h
theorem iJ {d:D} (hc:(cellsOf d).all cell0=true):refsL (cellsOf d)=refsD d:=by
 cases d<;>first |rfl |(simp[cellsOf,refsL,refsD,refs1,refs0,refsb];done) |(simp[cellsOf,cell0,pure0]at hc;done)
theorem zW (h:Rel C tm st G w) {s:Nat} (hs:st.os[s]? =some .dead) {t:TypeId} {x:Operand} {d:D} (aP:o.op= .box t x) (hc:(cellsOf d).all cell0=true)
  (hx:RepT C st.os G w (ρ x) d∧∀ id,id∈refsD d→isDead (st.os.getD id .gone)=false):
  bM C tm st G w (.ptr s 0) [(s,.var (cellsOf d))] ((execOp ρ o).run P w):=by
 obtain⟨h1,h2⟩:=oK hx.1 hc
 refine nk h hs (t:=t) h1 h2 hc (by rw[iJ hc];exact hx.2) ?_
 simp[execOp,aP,Instr.box,newVar,newRow]
end
end
end Go.Proofs.Ytkfnkiejikhglaa.GD
