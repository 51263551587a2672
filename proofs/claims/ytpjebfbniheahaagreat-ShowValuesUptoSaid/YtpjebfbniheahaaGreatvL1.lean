/- The evaluator's library. -/
import Derived.Below
import Derived.KernelRfl
import Derived.Still
import Derived.Lib.Bytealg
import Derived.Laws.Sem
import Derived.WalkKit
import Derived.Laws.StructEq
import Derived.Laws.AppendOwn
import Derived.Laws.MakeOwn
set_option linter.unusedVariables false
set_option linter.unusedSimpArgs false
namespace Dv
open Go
theorem oJ {α:Type _} {a b:α}:(some a=some b)=(a=b):=Option.some.injEq a b
theorem oB {α β:Type _} (a:α) (f:α→Option β):(some a).bind f=f a:=rfl
theorem pJ {α β:Type _} {a c:α} {b d:β}:((a,b)=(c,d))=(a=c∧b=d):=Prod.mk.injEq a b c d
inductive PV where
 | undef
 | bool (b:Bool)
 | int (k:IntKind) (n:Int)
 | str (s:List UInt8)
 | nilp
 | nilm
 | nilfn
 | nili
 | sl0
 | se
 | sl (s:Nat) (l:List PV)
 | ref (cells:List PV) (off:Nat)
 | ptr (i off:Nat)
 | rptr (i k off:Nat)
 | lall (i:Nat)
 | lsl (i off len:Nat) (lim:Option Nat)
 | raw (i n:Nat)
 | iface (t:Nat) (v:PV)
 | func (fn:Fn) (first captured:List PV)
 | agg (cells:List PV)
 | tuple (vs:List PV)
 | opq (v:PV) (off:Nat)
 | mp (ks vs:List PV)
 | mapr (i:Nat)
 | resv (i:Nat)
 deriving Inhabited
inductive Obj where
 | dead
 | cells (e:Nat) (l:List PV) (fz:Bool)
 | row (e s:Nat) (l:List PV) (fz:Nat) (cap:Option Nat)
 | iter (s:List UInt8) (pos:Nat)
 | map (ks vs:List PV) (im fz:Bool)
 | bmap (e0 e1:Option PV)
 | loop (st:LoopState) (pend:Option Code) (fn:Nat) (T:List PV) (ps:Array Nat) (as bd:Code)
 | dfr
 | hole
 deriving Inhabited
inductive LK where
 | int (k:IntKind) | bool | str | slice (s:Nat) | other
 deriving Inhabited
inductive TD where
 | bool | int (k:IntKind) | str | ptr (e:Nat) | slice (e:Nat) | arr (n e:Nat) | struct (fs:List (Nat×Nat))
 | map (k e:Nat) | iface (methods:Bool) | func | tuple (ts:List Nat) | uptr | other
 deriving Inhabited
def TD.known:TD→Bool
 | .other | .tuple _=>false
 | _=>true
def TD.isRow:TD→Bool | .slice _ | .str=>true | _=>false
def PV.nilR (d:TD) (v:PV):Option Bool :=
 match d,v with
 | .ptr _,.nilp | .iface _,.nili | .func,.nilfn | .map ..,.nilm=>some true
 | .ptr _,.ref .. | .ptr _,.ptr .. | .ptr _,.rptr .. | .iface _,.iface .. | .func,.func ..=>some false
 | _,_=>none
def PV.nilOf (d:TD) (v:PV):Option Bool :=
 match v with
 | .opq v 0=>v.nilR d
 | .opq _ _=>none
 | v=>v.nilR d
def PV.refR:PV→Option Unit
 | .ref ..=>some ()
 | _=>none
structure TI where
 d:TD
 size:Nat
 bytes:Nat
 zero:PV
 leaves:List LK
instance:Inhabited TI:=⟨⟨.other,0,0,.undef,[]⟩⟩
def eqB (a b:Int):Bool:=decide (a=b)
def ltB (a b:Int):Bool:=decide (a<b)
def leB (a b:Int):Bool:=decide (a≤b)
def eqN (a b:Nat):Bool:=decide (a=b)
def ltN (a b:Nat):Bool:=decide (a<b)
def leN (a b:Nat):Bool:=decide (a≤b)
def inB (z a n:Int):Bool:=decide (z≤a∧a<n)
def eqS (a b:List UInt8):Bool:=decide (a=b)
def tiBool:TI:=⟨.bool,1,1,.bool false,[.bool]⟩
def tiStr:TI:=⟨.str,1,16,.str [],[.str]⟩
def tiInt (k:IntKind):TI:=⟨.int k,1,k.bits / 8,.int k 0,[.int k]⟩
def nthD {α:Type} (d:α):List α→Nat→α
 | [],_=>d
 | a::_,0=>a
 | _::l,n+1=>nthD d l n
def setN {α:Type}:List α→Nat→α→List α
 | [],_,_=>[]
 | _::l,0,b=>b::l
 | a::l,n+1,b=>a::setN l n b
def TI.isAgg (t:TI):Bool:=match t.d with | .arr .. | .struct _=>true | _=>false
def ikEq:IntKind→IntKind→Bool
 | .i8,.i8 | .i16,.i16 | .i32,.i32 | .i64,.i64 | .u8,.u8 | .u16,.u16 | .u32,.u32 | .u64,.u64=>true
 | _,_=>false
namespace PV
def toI:PV→Int | .int _ n=>n | _=>0
def toB:PV→Bool | .bool b=>b | _=>false
def toS:PV→List UInt8 | .str s=>s | _=>[]
def toL:PV→List PV | .sl _ l=>l | _=>[]
def nth:PV→Nat→PV | .agg l,j=>nthD .undef l j | v,_=>v
def tnth:PV→Nat→PV | .tuple l,j=>nthD .undef l j | v,_=>v
def cellsL:PV→List PV | .agg l=>l | v=>[v]
def scalar:PV→Bool | .agg _ | .tuple _ | .undef | .resv _=>false | _=>true
def pure:PV→Bool
 | .bool _ | .int .. | .str _ | .nilp | .nilm | .nilfn | .nili | .sl .. | .ref .. | .opq .. | .mp ..=>true
 | _=>false
end PV
def refOf:PV→Option Nat
 | .ptr i _ | .rptr i _ _ | .lall i | .lsl i _ _ _ | .raw i _ | .mapr i=>some i
 | _=>none
def isPtrP:PV→Bool
 | .ptr .. | .rptr ..=>true
 | _=>false
def zu1:LK→PV→PV
 | .int k,v=>.int k v.toI
 | .bool,v=>.bool v.toB
 | .str,v=>.str v.toS
 | .slice s,v=>.sl s v.toL
 | .other,v=>.opq v 0
def okOther:PV→Bool
 | .nilp | .nilm | .nilfn | .nili | .ref .. | .iface .. | .func .. | .mp ..=>true
 | _=>false
def zel:LK→PV→Bool
 | .int k,.int k' _=>ikEq k k'
 | .bool,.bool _=>true
 | .str,.str _=>true
 | .slice s,.sl s' l=>(s == s')||l.isEmpty
 | .other,v=>okOther v
 | _,_=>false
def z21:List LK→List PV→Bool
 | [],[]=>true
 | k::ks,v::vs=>zel k v&&z21 ks vs
 | _,_=>false
def z10n:List LK→Nat→PV→List PV
 | [],_,_=>[]
 | k::ks,j,v=>zu1 k (v.nth j)::z10n ks (j+1) v
def hasTy (t:TI) (v:PV):Bool :=
 match t.isAgg,v with
 | true,.agg l=>z21 t.leaves l
 | true,_=>false
 | false,v=>z21 t.leaves [v]
def z6l (t:TI) (v:PV):PV :=
 match t.isAgg with
 | true=>.agg (z10n t.leaves 0 v)
 | false=>match t.leaves with | k::_=>zu1 k v | []=>v
def z10v:List TI→List PV→Bool
 | [],[]=>true
 | t::ts,v::vs=>hasTy t v&&z10v ts vs
 | _,_=>false
def zg4 (ts:List TI) (v:PV):Bool :=
 match ts with
 | [t]=>hasTy t v
 | ts=>match v with | .tuple l=>z10v ts l | _=>false
def zjd:List TI→Nat→PV→List PV
 | [],_,_=>[]
 | t::ts,j,v=>z6l t (v.tnth j)::zjd ts (j+1) v
def zk3 (ts:List TI) (v:PV):PV :=
 match ts with
 | [t]=>z6l t v
 | ts=>.tuple (zjd ts 0 v)
def rdT (t:TI) (l:List PV) (k off:Nat):Option PV :=
 match l[k]? with
 | some v =>
  let sub:=(v.cellsL.drop off).take t.size
  bif z21 t.leaves sub then some (bif t.isAgg then .agg sub else nthD .undef sub 0) else none
 | none=>none
def rdC (t:TI) (l:List PV) (k:Nat):Option PV :=
 match l[k]? with
 | some v=>bif z21 t.leaves [v] then some v else none
 | none=>none
def rdI (t:TI) (l:List PV) (i:Int):Option PV:=bif decide (0≤i) then rdT t l i.toNat 0 else none
def rdP (t:TI) (v:PV) (off:Nat):Option PV :=
 match v with
 | .ref cells o =>
  let sub:=(cells.drop (o+off)).take t.size
  bif z21 t.leaves sub then some (bif t.isAgg then .agg sub else nthD .undef sub 0) else none
 | _=>none
def rdAll (t:TI) (l:List PV):Option PV:=bif z21 t.leaves l then some (.agg l) else none
def asT (t:TI) (at_:Nat) (v:PV):Option (Option PV) :=
 match v with
 | .nili=>some none
 | .iface u x=>bif u == at_ then (bif hasTy t x then some (some x) else none) else some none
 | _=>none
def z52 {α β:Type}:Option α→β→(α→β)→β
 | none,b,_=>b
 | some a,_,f=>f a
def za5:List PV→Nat→List PV→List PV
 | l,_,[]=>l
 | l,o,v::vs=>za5 (setN l o v) (o+1) vs
def stC (l:List PV) (k off:Nat) (vs:List PV):Option (List PV) :=
 match l[k]? with
 | some (.agg cs)=>bif decide (off+vs.length≤cs.length) then some (l.set k (.agg (za5 cs off vs))) else none
 | some _=>match off,vs with | 0,[w]=>some (l.set k w) | _,_=>none
 | none=>none
def catS (a b:List UInt8):Option (List UInt8):=bif decide (a.length+b.length≤2 ^ 62) then some (a++b) else none
def atS (s:List UInt8) (i:Int):Option Int:=bif decide (0≤i) then (s[i.toNat]?).map fun c=>(c.toNat:Int) else none
def takeS {α:Type} (s:List α) (hi:Int):Option (List α):=bif decide (0≤hi∧hi≤s.length) then some (s.take hi.toNat) else none
def dropS {α:Type} (s:List α) (lo:Int):Option (List α):=bif decide (0≤lo∧lo≤s.length) then some (s.drop lo.toNat) else none
def subS {α:Type} (s:List α) (lo hi:Int):Option (List α):=bif decide (0≤lo∧lo≤hi∧hi≤s.length) then some ((s.drop lo.toNat).take (hi.toNat-lo.toNat)) else none
def appL (bytes:Nat) (l xs:List PV):Option (List PV):=bif decide ((l.length+xs.length)*bytes≤2 ^ 46) then some (l++xs) else none
def byteV (b:UInt8):PV:=.int .u8 b.toNat
def z7h:List PV→Option (List UInt8)
 | []=>some []
 | .int .u8 n::l=>(z7h l).map (UInt8.ofNat n.toNat::·)
 | _=>none
def encR (n:Int):List UInt8:=(Utf8.encode n).data.toList
def decR (s:List UInt8) (i:Nat):Nat×Nat:=Utf8.decode ⟨s.toArray⟩ i
def zzf (s:List UInt8):List PV:=(Conv.runesFrom ⟨s.toArray⟩ s.length 0 #[]).toList.map fun | .int k n=>.int k n | _=>.undef
def shlI (k:IntKind) (a b:Int):Int:=k.wrap (a*2 ^ (min b.toNat k.bits))
def shrI (k:IntKind) (a b:Int):Int:=a.fdiv (2 ^ (min b.toNat k.bits))
def andI (k:IntKind) (a b:Int):Int:=k.wrap (BitVec.ofInt k.bits a &&& BitVec.ofInt k.bits b).toNat
def orI (k:IntKind) (a b:Int):Int:=k.wrap (BitVec.ofInt k.bits a ||| BitVec.ofInt k.bits b).toNat
def xorI (k:IntKind) (a b:Int):Int:=k.wrap (BitVec.ofInt k.bits a ^^^ BitVec.ofInt k.bits b).toNat
def andNotI (k:IntKind) (a b:Int):Int:=k.wrap (BitVec.ofInt k.bits a &&& ~~~BitVec.ofInt k.bits b).toNat
def maxI (a b:Int):Int:=bif decide (b>a) then b else a
def minI (a b:Int):Int:=bif decide (b<a) then b else a
def z156:LK→PV→PV→Option Bool
 | .int k,.int k1 a,.int k2 b=>bif ikEq k k1&&ikEq k k2 then some (decide (a=b)) else none
 | .bool,.bool a,.bool b=>some (a == b)
 | .str,.str a,.str b=>some (decide (a=b))
 | _,_,_=>none
def z1n:List LK→List PV→List PV→Option Bool
 | [],[],[]=>some true
 | k::ks,a::as,b::bs=>match z156 k a b,z1n ks as bs with | some x,some y=>some (x&&y) | _,_=>none
 | _,_,_=>none
def keyEq:PV→PV→Option Bool
 | .int k a,.int k' b=>bif ikEq k k' then some (decide (a=b)) else none
 | .str a,.str b=>some (decide (a=b))
 | .bool a,.bool b=>some (a == b)
 | _,_=>none
def keyOk (d:TD) (key:PV):Bool :=
 match d,key with
 | .int k,.int k' _=>ikEq k k'
 | .str,.str _ | .bool,.bool _=>true
 | _,_=>false
def z14c (t:TI):List PV→List PV→PV→Option (Option PV)
 | [],[],_=>some none
 | a::ks,v::vs,key=>match keyEq a key with
  | some true=>bif hasTy t v then some (some v) else none
  | some false=>z14c t ks vs key
  | none=>none
 | _,_,_=>none
def z10u:List PV→List PV→PV→PV→Option (List PV×List PV)
 | [],[],key,v=>some ([key],[v])
 | a::ks,b::vs,key,v=>match keyEq a key with
  | some true=>some (a::ks,v::vs)
  | some false=>match z10u ks vs key v with | some (x,y)=>some (a::x,b::y) | none=>none
  | none=>none
 | _,_,_,_=>none
def mapOf:PV→Option (List PV×List PV)
 | .mp ks vs=>some (ks,vs)
 | .nilm=>some ([],[])
 | _=>none
def isYield:Fn→Bool
 | .yield _=>true
 | _=>false
mutual
def purify:Nat→List Obj→PV→Option (PV×List Obj)
 | 0,_,_=>none
 | n+1,o,v =>
  match v with
  | .undef | .bool _ | .int .. | .str _ | .nilp | .nilm | .nilfn | .nili | .sl .. | .ref .. | .mp ..=>some (v,o)
  | .sl0 | .se=>some (.sl 0 [],o)
  | .opq x 0=>some (x,o)
  | .opq _ _=>none
  | .iface t x=>match purify n o x with | some (x,o)=>some (.iface t x,o) | none=>none
  | .func f a b=>bif isYield f then none else match purifyL n o a with
   | some (a,o)=>match purifyL n o b with | some (b,o)=>some (.func f a b,o) | none=>none
   | none=>none
  | .agg l=>match purifyL n o l with | some (l,o)=>some (.agg l,o) | none=>none
  | .tuple l=>match purifyL n o l with | some (l,o)=>some (.tuple l,o) | none=>none
  | .lall i=>match nthD .dead o i with
   | .row e s l f c=>some (.sl s l,setN o i (.row e s l (max f l.length) c))
   | _=>none
  | .lsl i off len _=>match nthD .dead o i with
   | .row e s l f c=>some (.sl s ((l.drop off).take len),setN o i (.row e s l (max f (off+len)) c))
   | _=>none
  | .ptr i off=>match nthD .dead o i with
   | .cells e l true=>match purifyL n o l with | some (l,o)=>some (.ref l off,o) | none=>none
   | .cells e l false=>match purifyL n (setN o i (.cells e l true)) l with | some (l,o)=>some (.ref l off,o) | none=>none
   | _=>none
  | .raw _ _ | .resv _=>none
  | .mapr i=>match nthD .dead o i with
   | .map ks vs false _=>some (.mp ks vs,setN o i (.map ks vs false true))
   | _=>none
  | .rptr i k off=>match nthD .dead o i with
   | .row e s l f c=>match l[k]? with | some v=>some (.ref v.cellsL off,setN o i (.row e s l (max f (k+1)) c)) | none=>none
   | _=>none
def purifyL:Nat→List Obj→List PV→Option (List PV×List Obj)
 | 0,_,_=>none
 | _+1,o,[]=>some ([],o)
 | n+1,o,v::vs=>match purify n o v with
  | some (v,o)=>match purifyL n o vs with | some (vs,o)=>some (v::vs,o) | none=>none
  | none=>none
end
def pfuel:Nat:=400
end Dv

namespace Dv
open Go
structure Dir where
 keep:List Nat
 lower:List (List Nat)
 own:List (Nat×Nat×Nat)
structure Env where
 P:Program
 tt:List TI
 ext:List (Nat×(List PV→Option PV))
 ann:List (Nat×List ((List Nat×Nat)×Dir))
 inl:List (Nat×Nat)
 mt:List ((Nat×String)×Nat)
 eqs:List Nat
 same:List Nat:=[]
 mnz:List (Nat×Nat):=[]
 mcs:List Nat:=[]
def Env.ti (E:Env) (t:Nat):TI:=nthD default E.tt t
abbrev Orc:=List TI→PV→List PV→Option PV
def z1g9:Value→PV
 | .bool b=>.bool b
 | .int k n=>.int k n
 | .string s=>.str s.data.toList
 | .pointer none=>.nilp
 | .slice none 0 0=>.sl0
 | .map none=>.nilm
 | .nilFunc=>.nilfn
 | .nilIface=>.nili
 | _=>.undef
def ev (T:List PV):Operand→PV
 | .tmp t=>nthD .undef T t
 | .const v=>z1g9 v
 | .global _=>.undef
 | .func f=>.func (.func f) [] []
section
variable {R:Type}
def z2o (b:Bool) (k:Option R):Option R:=bif b then k else none
def allB {α:Type} (p:α→Bool):List α→Bool
 | []=>true
 | a::l=>p a&&allB p l
def mkObj (E:Env) (i:Nat) (t:TI) (v:PV) (objs:List Obj):Option (List Obj) :=
 match t.d with
 | .arr _ e=>match purifyL pfuel objs v.cellsL with
  | some (l,objs) =>
   bif ((E.ti e).size == 1)&&allB PV.scalar v.cellsL then some (objs++[.row i 1 l 0 (some l.length)]) else none
  | none=>none
 | _=>bif allB PV.scalar v.cellsL then some (objs++[.cells i v.cellsL false]) else none
def z10t (E:Env) (t:Nat) (v:PV) (objs:List Obj) (k:PV→List Obj→Option R):Option R :=
 match mkObj E t (E.ti t) v objs with
 | some objs'=>k (.ptr objs.length 0) objs'
 | none=>none
def zn1 (E:Env) (t:Nat) (at_:PV) (objs:List Obj) (k:PV→List Obj→Option R):Option R :=
 match at_ with
 | .resv i=>match nthD .dead objs i,(E.ti t).d with
  | .hole,.arr ..=>none
  | .hole,_=>bif allB PV.scalar (E.ti t).zero.cellsL then k (.ptr i 0) (setN objs i (.cells t (E.ti t).zero.cellsL false)) else none
  | _,_=>none
 | _=>z10t E t (E.ti t).zero objs k
def dstV (T:List PV) (d:Option Nat):PV:=match d with | some d=>nthD .undef T d | none=>.undef
def resvL:List Oper→List PV→List Obj→List PV×List Obj
 | [],T,o=>(T,o)
 | x::xs,T,o=>match x.op,x.dst with
  | .alloc _,some d=>resvL xs (setN T d (.resv o.length)) (o++[.hole])
  | _,_=>resvL xs T o
def z6c (E:Env) (t:Nat):Nat:=(E.ti t).size
def zzq (E:Env) (t f:Nat):Option (Nat×Nat):=match (E.ti t).d with | .struct fs=>fs[f]? | _=>none
def fillP (place:Nat→Option (Nat×Nat)):List PV→List (Nat×PV)→Option (List PV)
 | cs,[]=>some cs
 | cs,(i,v)::r=>match place i with
  | some (off,size)=>bif (v.cellsL.length == size)&&Nat.ble (off+size) cs.length&&allB PV.scalar v.cellsL then fillP place (za5 cs off v.cellsL) r else none
  | none=>none
def z18j (E:Env) (t:Nat) (ps:List (Nat×PV)) (k:PV→Option R):Option R :=
 let ti:=E.ti t
 bif !ti.d.known then none else
 match ti.zero with
 | .agg zs =>
  match ti.d with
  | .struct fs=>bif !allB (fun p=>(E.ti p.2).d.known) fs then none else match fillP (fun i=>(fs[i]?).map fun (o,ft)=>(o,z6c E ft)) zs ps with | some cs=>k (.agg cs) | none=>none
  | .arr _ e=>bif !(E.ti e).d.known then none else match fillP (fun i=>some (i*z6c E e,z6c E e)) zs ps with | some cs=>k (.agg cs) | none=>none
  | _=>none
 | _=>none
def repl {α:Type} (a:α):Nat→List α
 | 0=>[]
 | n+1=>a::repl a n
def z12k:List PV→List (Nat×PV)→List PV
 | l,[]=>l
 | l,(i,v)::r=>z12k (setN l i v) r
def zmz (E:Env) (t:Nat):Option Nat:=match (E.ti t).d with | .slice e=>some e | _=>none
def ze2 (E:Env) (t len:Nat) (ps:List (Nat×PV)) (objs:List Obj) (k:PV→List Obj→Option R):Option R :=
 match zmz E t with
 | some e =>
  let ti:=E.ti e
  bif !(ti.d.known&&Nat.ble (len*ti.size) 16777216&&(ti.zero.cellsL.length == ti.size)&&allB PV.scalar ti.zero.cellsL&&allB (fun p=>Nat.blt p.1 len&&(p.2.cellsL.length == ti.size)&&allB PV.scalar p.2.cellsL) ps) then none else
  match purifyL pfuel objs (z12k (repl ti.zero len) ps) with
  | some (l,objs)=>k (.lall objs.length) (objs++[.row e ti.size l 0 (some len)])
  | none=>none
 | none=>none
def zzy (ti:TI) (l:List PV) (off:Nat):Option PV :=
 bif Nat.ble (off+ti.size) l.length then some (bif ti.isAgg then .agg ((l.drop off).take ti.size) else nthD .undef l off) else none
def loadK (E:Env) (t:Nat) (objs:List Obj) (a:PV) (k:PV→Option R):Option R :=
 let ti:=E.ti t
 bif !ti.d.known then none else
 match a with
 | .ptr i off=>match nthD .dead objs i with
  | .cells _ l _=>match zzy ti l off with | some v=>k v | none=>none
  | .row _ s l _ _=>match off with | 0=>bif ti.isAgg&&(s == 1) then (rdAll ti l).bind fun v=>k (z6l ti v) else none | _=>none
  | _=>none
 | .rptr i kk off=>match nthD .dead objs i with
  | .row _ _ l _ _=>(rdT ti l kk off).bind fun v=>k (z6l ti v)
  | _=>none
 | .ref l off=>match zzy ti l off with | some v=>k v | none=>none
 | .opq v off=>(rdP ti v off).bind fun x=>k (z6l ti x)
 | _=>none
def fzOk (fz n:Nat):Bool:=match fz with | 0=>true | f+1=>decide (f+1≤n)
def TD.isArr:TD→Bool | .arr ..=>true | _=>false
def zoh (E:Env) (t:Nat) (objs:List Obj) (a v:PV) (k:List Obj→Option R):Option R :=
 let ti:=E.ti t
 bif !(ti.d.known&&(v.cellsL.length == ti.size)&&allB PV.scalar v.cellsL) then none else
 match a with
 | .ptr i off=>match nthD .dead objs i with
  | .cells e l false=>bif Nat.ble (off+ti.size) l.length then k (setN objs i (.cells e (za5 l off v.cellsL) false)) else none
  | .row ..=>match purifyL pfuel objs v.cellsL with
   | some (vs,objs)=>match nthD .dead objs i with
    | .row e s l fz cap=>bif ti.d.isArr&&(s == 1)&&(off == 0)&&Nat.beq vs.length l.length then z2o (fzOk fz 0) (k (setN objs i (.row e s vs fz cap))) else none
    | _=>none
   | none=>none
  | _=>none
 | .rptr i kk off=>match purifyL pfuel objs v.cellsL with
  | some (vs,objs)=>match nthD .dead objs i with
   | .row e s l fz cap=>z2o (fzOk fz kk) ((stC l kk off vs).bind fun l'=>k (setN objs i (.row e s l' fz cap)))
   | _=>none
  | none=>none
 | _=>none
def intK (op:BinOp) (kd:IntKind) (a b:Int) (k:PV→Option R):Option R :=
 match op with
 | .add=>k (.int kd (kd.wrap (a+b)))
 | .sub=>k (.int kd (kd.wrap (a-b)))
 | .mul=>k (.int kd (kd.wrap (a*b)))
 | .quo=>bif decide (b=0) then none else k (.int kd (kd.wrap (a.tdiv b)))
 | .rem=>bif decide (b=0) then none else k (.int kd (a.tmod b))
 | .and=>k (.int kd (andI kd a b))
 | .or=>k (.int kd (orI kd a b))
 | .xor=>k (.int kd (xorI kd a b))
 | .andNot=>k (.int kd (andNotI kd a b))
 | .eql=>k (.bool (decide (a=b)))
 | .neq=>k (.bool (!decide (a=b)))
 | .lss=>k (.bool (decide (a<b)))
 | .leq=>k (.bool (decide (a≤b)))
 | .gtr=>k (.bool (decide (b<a)))
 | .geq=>k (.bool (decide (b≤a)))
 | _=>none
def strK (op:BinOp) (a b:List UInt8) (k:PV→Option R):Option R :=
 match op with
 | .add=>(catS a b).bind fun s=>k (.str s)
 | .eql=>k (.bool (decide (a=b)))
 | .neq=>k (.bool (!decide (a=b)))
 | .lss=>k (.bool (Op.bytesLess a b))
 | .leq=>k (.bool (Op.bytesLess a b||decide (a=b)))
 | .gtr=>k (.bool (!(Op.bytesLess a b||decide (a=b))))
 | .geq=>k (.bool (!Op.bytesLess a b))
 | _=>none
def z1t:LK→Bool | .int _ | .bool | .str=>true | _=>false
def memN (a:Nat):List Nat→Bool
 | []=>false
 | b::r=>(a == b)||memN a r
def z1ad:TD→PV→Bool
 | .ptr _,.nilp | .iface _,.nili | .func,.nilfn | .map ..,.nilm=>true
 | _,_=>false
def isSlTD:TD→Bool | .slice _=>true | _=>false
def eqK (E:Env) (t:Nat) (neg yc:Bool) (x y:PV) (k:PV→Option R):Option R :=
 match x,y with
 | .bool a,.bool b=>match (E.ti t).d with | .bool=>k (.bool (bif neg then !(a == b) else a == b)) | _=>none
 | .agg a,.agg b=>bif memN t E.eqs&&(a.length == z6c E t) then (match z1n (E.ti t).leaves a b with | some c=>k (.bool (bif neg then !c else c)) | none=>none) else none
 | .sl _ l,.sl0=>bif yc&&isSlTD (E.ti t).d then z2o (decide (0<l.length)) (k (.bool neg)) else none
 | x,y=>bif yc&&z1ad (E.ti t).d y then (x.nilOf (E.ti t).d).bind fun b=>k (.bool (bif neg then !b else b)) else none
def binK (E:Env) (op:BinOp) (t:Nat) (yc:Bool) (x y:PV) (k:PV→Option R):Option R :=
 match x,y with
 | .int kd a,.int kd' b =>
  match op with
  | .shl=>bif decide (b<0) then none else k (.int kd (shlI kd a b))
  | .shr=>bif decide (b<0) then none else k (.int kd (shrI kd a b))
  | op=>bif ikEq kd kd' then intK op kd a b k else none
 | .str a,.str b=>strK op a b k
 | x,y=>match op with
  | .eql=>eqK E t false yc x y k
  | .neq=>eqK E t true yc x y k
  | _=>none
def unK (op:UnOp) (x:PV) (k:PV→Option R):Option R :=
 match op,x with
 | .neg,.int kd a=>k (.int kd (kd.wrap (0-a)))
 | .xor,.int kd a=>k (.int kd (xorI kd (bif kd.signed then -1 else kd.max) a))
 | .not,.bool b=>k (.bool (!b))
 | _,_=>none
def isNilL {α:Type}:List α→Bool | []=>true | _=>false
def zj3 (sz:Nat) (objs:List Obj):PV→Option (List PV)
 | .sl0 | .se=>some []
 | .sl s l=>bif (s == sz)||isNilL l then some l else none
 | .lall i=>match nthD .dead objs i with | .row _ s l _ _=>bif s == sz then some l else none | _=>none
 | .lsl i off len _=>match nthD .dead objs i with | .row _ s l _ _=>bif s == sz then some ((l.drop off).take len) else none | _=>none
 | _=>none
def convK (E:Env) (src dst:Nat) (objs:List Obj) (x:PV) (k:PV→List Obj→Option R):Option R :=
 bif !(E.ti src).d.known then none else
 match (E.ti src).d,(E.ti dst).d,x with
 | _,.int kd,.int _ n=>k (.int kd (kd.wrap n)) objs
 | _,.str,.int _ n=>k (.str (encR n)) objs
 | _,.str,.str s=>k (.str s) objs
 | .str,.slice e,.str s=>match (E.ti e).d with
  | .int .u8=>k (.lall objs.length) (objs++[.row e 1 (s.map byteV) 0 none])
  | .int .i32=>k (.lall objs.length) (objs++[.row e 1 (zzf s) 0 none])
  | _=>none
 | .slice e,.str,x=>match (E.ti e).d with
  | .int .u8=>bif !((E.ti e).size == 1) then none else match zj3 1 objs x with | some l=>(z7h l).bind fun s=>k (.str s) objs | none=>none
  | _=>none
 | .ptr e,.uptr,.ptr i off=>match nthD .dead objs i with
  | .cells _ l _=>bif (E.ti e).d.known&&!((E.ti e).size == 0)&&Nat.blt off l.length then k (.ptr i off) objs else none
  | _=>none
 | .uptr,.ptr u,.ptr i off=>match nthD .dead objs i with
  | .cells e l _=>bif (E.ti u).d.known&&liesAt E.P E.P.depth e (l.length / E.P.cellsOf e) off u 1 then k (.ptr i off) objs else none
  | _=>none
 | _,_,_=>none
def lenK (E:Env) (t:Nat) (objs:List Obj) (x:PV) (k:PV→Option R):Option R :=
 match (E.ti t).d with
 | .arr n _=>k (.int .i64 n)
 | .ptr e=>match (E.ti e).d with | .arr n _=>k (.int .i64 n) | _=>none
 | .str=>match x with | .str s=>k (.int .i64 s.length) | _=>none
 | .map ..=>match x with
  | .nilm=>k (.int .i64 0)
  | .mp ks _=>k (.int .i64 ks.length)
  | .opq v 0=>(mapOf v).bind fun p=>k (.int .i64 p.1.length)
  | .mapr i=>match nthD .dead objs i with | .map ks _ _ _=>k (.int .i64 ks.length) | _=>none
  | _=>none
 | .slice _=>match x with
  | .sl0 | .se=>k (.int .i64 0)
  | .sl _ l=>k (.int .i64 l.length)
  | .lall i=>match nthD .dead objs i with | .row _ _ l _ _=>k (.int .i64 l.length) | _=>none
  | .lsl i _ len _=>match nthD .dead objs i with | .row ..=>k (.int .i64 (len:Nat)) | _=>none
  | _=>none
 | _=>none
def capK (E:Env) (t:Nat) (objs:List Obj) (x:PV) (k:PV→Option R):Option R :=
 match (E.ti t).d with
 | .slice _=>match x with
  | .sl0 | .se=>k (.int .i64 0)
  | .lall i=>match nthD .dead objs i with | .row _ _ _ _ (some m)=>k (.int .i64 (m:Nat)) | _=>none
  | .lsl i _ _ (some m)=>match nthD .dead objs i with | .row ..=>k (.int .i64 (m:Nat)) | _=>none
  | .lsl i off _ none=>match nthD .dead objs i with | .row _ _ _ _ (some m)=>k (.int .i64 ((m-off:Nat):Int)) | _=>none
  | _=>none
 | _=>none
def z1ie (sz:Nat) (objs:List Obj) (x:PV):Option (List PV):=match x with | .str s=>bif sz == 1 then some (s.map byteV) else none | x=>zj3 sz objs x
def z100 (E:Env) (t:Nat) (objs:List Obj) (d x:PV) (k:PV→List Obj→Option R):Option R :=
 match zmz E t with
 | none=>none
 | some e =>
  let ti:=E.ti e
  bif !(ti.d.known&&!Nat.beq ti.bytes 0) then none else
  match z1ie ti.size objs x with
  | none=>none
  | some xs =>
  match d with
  | .sl0 | .se=>(appL ti.bytes [] xs).bind fun l=>k (.lall objs.length) (objs++[.row e ti.size l 0 none])
  | .lall i=>match nthD .dead objs i with
   | .row u s l fz none=>bif (s == ti.size)&&(u == e) then z2o (fzOk fz l.length) ((appL ti.bytes l xs).bind fun l'=>k (.lall objs.length) (setN objs i .dead++[.row e s l' fz none])) else none
   | .row u s l fz (some m)=>bif s == ti.size then z2o (fzOk fz l.length) ((appL ti.bytes l xs).bind fun l' =>
     bif decide (l'.length≤m) then k (.lall objs.length) (setN objs i .dead++[.row u s l' fz (some m)])
     else k (.lall objs.length) (setN objs i .dead++[.row e s l' fz none])) else none
   | _=>none
  | .lsl i off len lim=>match nthD .dead objs i with
   | .row u s l fz cap=>bif (s == ti.size)&&(u == e) then z2o (fzOk fz (off+len))
     (bif lim.isNone&&decide (off+len+xs.length≤l.length) then k (.lsl i off (len+xs.length) none) (setN objs i (.row u s (l.take (off+len)++(xs++l.drop (off+len+xs.length))) fz cap))
      else (appL ti.bytes ((l.drop off).take len) xs).bind fun l'=>k (.lall objs.length) (setN objs i .dead++[.row e s l' (fz-off) none])) else none
   | _=>none
  | _=>none
def copyK (objs:List Obj) (d x:PV) (k:PV→Option R):Option R :=
 match d,x with
 | .lall i,.sl0=>match nthD .dead objs i with | .row ..=>k (.int .i64 0) | _=>none
 | _,_=>none
def z18g (E:Env) (t:Nat) (objs:List Obj) (x:PV) (k:List Obj→Option R):Option R :=
 match zmz E t with
 | some e =>
  let ti:=E.ti e
  bif !(ti.d.known&&(ti.zero.cellsL.length == ti.size)&&allB PV.scalar ti.zero.cellsL) then none else
  match purify pfuel objs ti.zero with
  | some (z,objs) =>
   match x with
   | .lsl i off len _=>match nthD .dead objs i with
    | .row u s l fz cap=>bif s == ti.size then z2o (fzOk fz off) (k (setN objs i (.row u s (l.take off++(List.replicate len z++l.drop (off+len))) fz cap))) else none
    | _=>none
   | .lall i=>match nthD .dead objs i with
    | .row u s l fz cap=>bif s == ti.size then z2o (fzOk fz 0) (k (setN objs i (.row u s (List.replicate l.length z) fz cap))) else none
    | _=>none
   | _=>none
  | none=>none
 | none=>none
def ze3 (E:Env) (t:Nat) (objs:List Obj) (d x:PV) (k:PV→List Obj→Option R):Option R :=
 match zmz E t with
 | some e =>
  let ti:=E.ti e
  bif !(ti.d.known&&!Nat.beq ti.bytes 0&&(ti.zero.cellsL.length == ti.size)&&allB PV.scalar ti.zero.cellsL) then none else
  match purify pfuel objs ti.zero with
  | some (z,objs)=>match d,x with
   | .sl0,.int .i64 n | .se,.int .i64 n=>z2o (decide (0≤n∧n*ti.bytes≤2 ^ 46)) (k (.lall objs.length) (objs++[.row e ti.size (List.replicate n.toNat z) 0 none]))
   | _,_=>none
  | none=>none
 | none=>none
def z1ao:TD→Bool | .int _=>true | _=>false
def mmK (mx:Bool):List PV→(PV→Option R)→Option R
 | [.int kd a,.int kd' b],k=>bif ikEq kd kd' then k (.int kd (bif mx then maxI a b else minI a b)) else none
 | [.int kd a,.int kd' b,.int kd'' c],k=>bif ikEq kd kd'&&ikEq kd kd'' then k (.int kd (bif mx then maxI (maxI a b) c else minI (minI a b) c)) else none
 | _,_=>none
def zh3 (E:Env) (t:Nat) (objs:List Obj) (l c:PV) (k:PV→List Obj→Option R):Option R :=
 match zmz E t,l,c with
 | some e,.int .i64 n,.int .i64 m =>
  let ti:=E.ti e
  bif !(ti.d.known&&!Nat.beq ti.bytes 0&&(ti.zero.cellsL.length == ti.size)&&allB PV.scalar ti.zero.cellsL) then none else
  match purify pfuel objs ti.zero with
  | some (z,objs) =>
   z2o (decide (0≤n∧n≤m∧m*ti.bytes≤2 ^ 46)) (k (.lall objs.length) (objs++[.row e ti.size (List.replicate n.toNat z) 0 (some m.toNat)]))
  | none=>none
 | _,_,_=>none
def natOf:PV→Option Int | .int .i64 n=>some n | _=>none
def zk1 (s:List UInt8) (lo hi mx:Option PV) (k:PV→Option R):Option R :=
 match lo,hi,mx with
 | none,none,none=>k (.str s)
 | some (.int .i64 a),none,none=>(dropS s a).bind fun s=>k (.str s)
 | none,some (.int .i64 b),none=>(takeS s b).bind fun s=>k (.str s)
 | some (.int .i64 a),some (.int .i64 b),none=>(subS s a b).bind fun s=>k (.str s)
 | _,_,_=>none
def zs5 (sz:Nat) (l:List PV) (lo hi mx:Option PV) (k:PV→Option R):Option R :=
 match lo,hi,mx with
 | none,none,none=>k (.sl sz l)
 | some (.int .i64 a),none,none=>(dropS l a).bind fun l=>k (.sl sz l)
 | none,some (.int .i64 b),none=>(takeS l b).bind fun l=>k (.sl sz l)
 | some (.int .i64 a),some (.int .i64 b),none=>(subS l a b).bind fun l=>k (.sl sz l)
 | none,some (.int .i64 (.ofNat 0)),some (.int .i64 (.ofNat 0))=>k .se
 | _,_,_=>none
def zej (lo hi mx:Option PV) (k:PV→Option R):Option R :=
 match lo,hi,mx with
 | none,none,none=>k .se
 | some (.int .i64 a),none,none=>z2o (decide (a=0)) (k .se)
 | none,some (.int .i64 b),none=>z2o (decide (b=0)) (k .se)
 | none,some (.int .i64 b),some (.int .i64 c)=>z2o (decide (b=0∧c=0)) (k .se)
 | some (.int .i64 a),some (.int .i64 b),none=>z2o (decide (a=0∧b=0)) (k .se)
 | _,_,_=>none
def z9i (i n:Nat) (lo hi mx:Option PV) (k:PV→Option R):Option R :=
 match lo,hi,mx with
 | none,none,none=>k (.lall i)
 | some (.int .i64 a),none,none=>z2o (decide (0≤a∧a≤n)) (k (.lsl i a.toNat (n-a.toNat) none))
 | none,some (.int .i64 b),none=>z2o (decide (0≤b∧b≤n)) (k (.lsl i 0 b.toNat none))
 | some (.int .i64 a),some (.int .i64 b),none=>z2o (decide (0≤a∧a≤b∧b≤n)) (k (.lsl i a.toNat (b.toNat-a.toNat) none))
 | none,some (.int .i64 b),some (.int .i64 c)=>z2o (decide (0≤b∧b≤c∧c≤n)) (k (.lsl i 0 b.toNat (some c.toNat)))
 | some (.int .i64 a),some (.int .i64 b),some (.int .i64 c)=>z2o (decide (0≤a∧a≤b∧b≤c∧c≤n)) (k (.lsl i a.toNat (b.toNat-a.toNat) (some (c.toNat-a.toNat))))
 | _,_,_=>none
def zh2 (i off len n:Nat) (lo hi mx:Option PV) (k:PV→Option R):Option R :=
 match lo,hi,mx with
 | none,none,none=>k (.lsl i off len none)
 | some (.int .i64 a),none,none=>z2o (decide (0≤a∧a≤len)) (k (.lsl i (off+a.toNat) (len-a.toNat) none))
 | none,some (.int .i64 b),none=>z2o (decide (0≤b∧off+b≤n)) (k (.lsl i off b.toNat none))
 | some (.int .i64 a),some (.int .i64 b),none=>z2o (decide (0≤a∧a≤b∧off+b≤n)) (k (.lsl i (off+a.toNat) (b.toNat-a.toNat) none))
 | _,_,_=>none
def z9j (E:Env) (n e:Nat) (objs:List Obj) (x:PV) (lo hi mx:Option PV) (k:PV→Option R):Option R :=
 match x with
 | .ptr i 0=>match nthD .dead objs i with
  | .row _ s l _ (some c)=>bif (E.ti e).d.known&&(s == (E.ti e).size) then z2o (decide (l.length=n)) (z2o (decide (c=n)) (z9i i n lo hi mx k)) else none
  | _=>none
 | _=>none
def zk2 (E:Env) (t:Nat) (objs:List Obj) (x:PV) (lo hi mx:Option PV) (k:PV→Option R):Option R :=
 match (E.ti t).d with
 | .str=>match x with | .str s=>zk1 s lo hi mx k | _=>none
 | .slice e=>bif !(E.ti e).d.known then none else
  match x with
  | .sl sz l=>bif (sz == (E.ti e).size)||isNilL l then zs5 sz l lo hi mx k else none
  | .sl0 | .se=>zej lo hi mx k
  | .lall i=>match nthD .dead objs i with | .row _ s l _ _=>bif s == (E.ti e).size then z9i i l.length lo hi mx k else none | _=>none
  | .raw i _=>match nthD .dead objs i,lo,hi,mx with | .row _ 1 [] _ none,none,some (.int .i64 b),none=>bif (E.ti e).size == 1 then z2o (decide (b=0)) (k (.lall i)) else none | _,_,_,_=>none
  | .lsl i off len none=>match nthD .dead objs i with | .row _ s l _ _=>bif s == (E.ti e).size then zh2 i off len l.length lo hi mx k else none | _=>none
  | _=>none
 | .ptr a=>match (E.ti a).d with | .arr n e=>z9j E n e objs x lo hi mx k | _=>none
 | .arr n e=>z9j E n e objs x lo hi mx k
 | _=>none
def z1p (E:Env) (t:Nat) (objs:List Obj) (x:PV) (f:Nat) (k:PV→Option R):Option R :=
 match zzq E t f with
 | some (o,ft)=>bif !(E.ti ft).d.known||(z6c E ft == 0) then none else
  match x with
  | .ptr i off=>match nthD .dead objs i with | .dead=>none | _=>k (.ptr i (off+o))
  | .rptr i kk off=>match nthD .dead objs i with | .row ..=>k (.rptr i kk (off+o)) | _=>none
  | .ref l off=>k (.ref l (off+o))
  | .opq v off=>v.refR.bind fun _=>k (.opq v (off+o))
  | _=>none
 | none=>none
def z1dc (E:Env) (t:Nat) (cs:List PV) (off:Nat) (k:PV→Option R):Option R :=
 let ti:=E.ti t
 bif !ti.d.known then none else
 bif ti.isAgg then k (.agg ((cs.drop off).take ti.size)) else match cs[off]? with | some v=>k v | none=>none
def z18c (E:Env) (t:Nat) (x:PV) (f:Nat) (k:PV→Option R):Option R :=
 match zzq E t f,x with
 | some (o,ft),.agg cs=>z1dc E ft cs o k
 | _,_=>none
def z56 (E:Env) (t:Nat) (objs:List Obj) (x ix:PV) (k:PV→Option R):Option R :=
 match (E.ti t).d,ix with
 | .slice e,.int _ i=>bif !(E.ti e).d.known then none else
  match x with
  | .sl s l=>bif (s == (E.ti e).size)||isNilL l then (rdI (E.ti e) l i).bind fun v=>k (.ref (z6l (E.ti e) v).cellsL 0) else none
  | .lall j=>match nthD .dead objs j with
   | .row _ s l _ _=>bif s == (E.ti e).size then z2o (decide (0≤i∧i<l.length)) (k (.rptr j i.toNat 0)) else none
   | _=>none
  | .lsl j off len _=>match nthD .dead objs j with
   | .row _ s _ _ _=>bif s == (E.ti e).size then z2o (decide (0≤i∧i<len)) (k (.rptr j (off+i.toNat) 0)) else none
   | _=>none
  | _=>none
 | .arr n e,.int _ i=>bif !(E.ti e).d.known then none else
  match x with
  | .ptr j 0=>match nthD .dead objs j with
   | .row _ s _ _ _=>bif s == (E.ti e).size then z2o (decide (0≤i∧i<n)) (k (.rptr j i.toNat 0)) else none
   | _=>none
  | _=>none
 | _,_=>none
def z1ac:LK→Bool | .other=>false | _=>true
def z17y (E:Env) (t:Nat) (x ix:PV) (k:PV→Option R):Option R :=
 match (E.ti t).d,x,ix with
 | .str,.str s,.int _ i=>(atS s i).bind fun c=>k (.int .u8 c)
 | .arr n e,.agg cs,.int _ i=>bif !(E.ti e).d.known||(E.ti e).isAgg||!allB z1ac (E.ti e).leaves then none else z2o (decide (0≤i∧i<n)) ((rdC (E.ti e) cs i.toNat).bind fun v=>k (z6l (E.ti e) v))
 | _,_,_=>none
def zzz (E:Env) (x:PV) (at_:Nat) (ok:Bool) (k:PV→Option R):Option R :=
 match (E.ti at_).d with
 | .iface _=>none
 | d=>bif !d.known then none else match x with
  | .iface t v=>bif t == at_ then k (bif ok then .tuple [v,.bool true] else v) else (bif ok then k (.tuple [(E.ti at_).zero,.bool false]) else none)
  | .nili=>bif ok then k (.tuple [(E.ti at_).zero,.bool false]) else none
  | .opq v 0=>(asT (E.ti at_) at_ v).bind fun r=>z52 r (bif ok then k (.tuple [(E.ti at_).zero,.bool false]) else none) (fun x=>k (bif ok then .tuple [z6l (E.ti at_) x,.bool true] else z6l (E.ti at_) x))
  | _=>none
def z4m (objs:List Obj) (x:PV) (k:PV→Option R):Option R :=
 match x with
 | .ptr i off=>match nthD .dead objs i with | .dead=>none | _=>k (.ptr i off)
 | .rptr i kk off=>match nthD .dead objs i with | .row ..=>k (.rptr i kk off) | _=>none
 | .ref l off=>k (.ref l off)
 | .opq v off=>v.refR.bind fun _=>k (.opq v off)
 | _=>none
def nextK (objs:List Obj) (x:PV) (k:PV→List Obj→Option R):Option R :=
 match x with
 | .ptr i 0=>match nthD .dead objs i with
  | .iter s pos=>bif decide (pos<s.length) then k (.tuple [.bool true,.int .i64 pos,.int .i32 (decR s pos).1]) (setN objs i (.iter s (pos+(decR s pos).2)))
    else k (.tuple [.bool false]) objs
  | _=>none
 | _=>none
def findC (key:PV) (nf:Option R) (f:PV→Option R):List PV→List PV→Option R
 | [],[]=>nf
 | a::ks,v::vs=>match keyEq a key with | some c=>bif c then f v else findC key nf f ks vs | none=>none
 | _,_=>none
def putC (key x:PV) (k:List PV→List PV→Option R):List PV→List PV→List PV→List PV→Option R
 | ks0,vs0,[],[]=>k (ks0++[key]) (vs0++[x])
 | ks0,vs0,a::ks,v::vs=>match keyEq a key with | some c=>bif c then k (ks0++a::ks) (vs0++x::vs) else putC key x k (ks0++[a]) (vs0++[v]) ks vs | none=>none
 | _,_,_,_=>none
def mapNo (E:Env) (et:Nat) (ok:Bool):PV:=bif ok then .tuple [(E.ti et).zero,.bool false] else (E.ti et).zero
def z14a (ok:Bool) (v:PV):PV:=bif ok then .tuple [v,.bool true] else v
def zgu (E:Env) (et:Nat) (ok:Bool) (ks vs:List PV) (key:PV) (k:PV→Option R):Option R :=
 (z14c (E.ti et) ks vs key).bind fun r=>z52 r (k (mapNo E et ok)) (fun v=>k (z14a ok (z6l (E.ti et) v)))
def zvm (E:Env) (t:Nat) (ok:Bool) (objs:List Obj) (x key:PV) (k:PV→Option R):Option R :=
 match (E.ti t).d with
 | .map kt et=>bif !(keyOk (E.ti kt).d key&&(E.ti et).d.known) then none else
  match x with
  | .nilm=>k (mapNo E et ok)
  | .mp ks vs=>zgu E et ok ks vs key k
  | .opq v 0=>(mapOf v).bind fun p=>zgu E et ok p.1 p.2 key k
  | .mapr i=>match nthD .dead objs i with
   | .bmap e0 e1=>(match key with | .bool b=>bif b then z52 e1 (k (mapNo E et ok)) (fun v=>k (z14a ok v)) else z52 e0 (k (mapNo E et ok)) (fun v=>k (z14a ok v)) | _=>none)
   | .map ks vs true _=>findC key (k (mapNo E et ok)) (fun v=>k (z14a ok v)) ks vs
   | .map ks vs false _=>zgu E et ok ks vs key k
   | _=>none
  | _=>none
 | _=>none
def boolD:TD→Bool
 | .bool=>true
 | _=>false
def zlq (E:Env) (t:Nat) (objs:List Obj) (r:Option PV) (k:PV→List Obj→Option R):Option R :=
 match (E.ti t).d with
 | .map kt _=>match r with
  | none | some (.int .i64 _)=>k (.mapr objs.length) (objs++[bif boolD (E.ti kt).d then .bmap none none else .map [] [] (memN t E.mcs) false])
  | _=>none
 | _=>none
def z8o (E:Env) (t:Nat) (objs:List Obj) (m key x:PV) (k:List Obj→Option R):Option R :=
 match (E.ti t).d,m with
 | .map kt _,.mapr i=>bif !keyOk (E.ti kt).d key then none else
  match nthD .dead objs i with
  | .bmap e0 e1=>(match key with | .bool b=>bif b then z52 e1 (k (setN objs i (.bmap e0 (some x)))) (fun _=>none) else z52 e0 (k (setN objs i (.bmap (some x) e1))) (fun _=>none) | _=>none)
  | .map ks vs true false=>bif boolD (E.ti kt).d then none else putC key x (fun ks vs=>k (setN objs i (.map ks vs true false))) [] [] ks vs
  | .map _ _ false false=>bif boolD (E.ti kt).d then none else match purify pfuel objs x with
   | some (x,objs)=>match nthD .dead objs i with
    | .map ks vs false false=>(z10u ks vs key x).bind fun p=>k (setN objs i (.map p.1 p.2 false false))
    | _=>none
   | none=>none
  | _=>none
 | _,_=>none
def opK (E:Env) (T:List PV) (objs:List Obj) (o:Oper) (k:PV→List Obj→Option R):Option R :=
 match o.op with
 | .move x | .assign x=>k (ev T x) objs
 | .pick c a b=>match ev T c with | .bool c=>bif c then k (ev T a) objs else k (ev T b) objs | _=>none
 | .alloc t=>bif (E.ti t).d.known then zn1 E t (dstV T o.dst) objs k else none
 | .box t x=>bif ((ev T x).cellsL.length == z6c E t) then z10t E t (ev T x) objs k else none
 | .build t ps=>z18j E t (ps.toList.map fun (i,x)=>(i,ev T x)) fun v=>k v objs
 | .buildSlice t n ps=>ze2 E t n (ps.toList.map fun (i,x)=>(i,ev T x)) objs k
 | .load t a=>loadK E t objs (ev T a) fun v=>k v objs
 | .store t a x=>zoh E t objs (ev T a) (ev T x) fun objs=>k (.tuple []) objs
 | .nilCheck x=>z4m objs (ev T x) fun v=>k v objs
 | .binOp op t x y _=>binK E op t (match y with | .const _=>true | _=>false) (ev T x) (ev T y) fun v=>k v objs
 | .unOp op _ x=>unK op (ev T x) fun v=>k v objs
 | .convert s d x=>convK E s d objs (ev T x) k
 | .makeInterface t x=>match (E.ti t).d with | .iface _ | .other | .tuple _=>none | _=>k (.iface t (ev T x)) objs
 | .makeFunc fn a b=>bif isYield fn then none else k (.func fn (a.toList.map (ev T)) (b.toList.map (ev T))) objs
 | .makeSlice t l c=>zh3 E t objs (ev T l) (ev T c) k
 | .slice t x lo hi mx=>zk2 E t objs (ev T x) (lo.map (ev T)) (hi.map (ev T)) (mx.map (ev T)) fun v=>k v objs
 | .fieldAddr t x f=>z1p E t objs (ev T x) f fun v=>k v objs
 | .field t x f=>z18c E t (ev T x) f fun v=>k v objs
 | .indexAddr t x i=>z56 E t objs (ev T x) (ev T i) fun v=>k v objs
 | .index t x i=>z17y E t (ev T x) (ev T i) fun v=>k v objs
 | .range t x=>match (E.ti t).d,ev T x with | .str,.str s=>k (.ptr objs.length 0) (objs++[.iter s 0]) | _,_=>none
 | .next x true=>nextK objs (ev T x) k
 | .makeMap t r=>zlq E t objs (r.map (ev T)) k
 | .lookup t x i ok=>zvm E t ok objs (ev T x) (ev T i) fun v=>k v objs
 | .mapUpdate t m i x=>z8o E t objs (ev T m) (ev T i) (ev T x) fun objs=>k (.tuple []) objs
 | .insert t m i x=>z8o E t objs (ev T m) (ev T i) (ev T x) fun objs=>k (.tuple []) objs
 | .typeAssert x _ a ok=>zzz E (ev T x) a ok fun v=>k v objs
 | .extract x i=>match ev T x with | .tuple l=>(match l[i]? with | some v=>k v objs | none=>none) | _=>none
 | .call { callee:=.builtin .len,args,argTypes }=>match args.toList,argTypes.toList with | [x],t::_=>lenK E t objs (ev T x) fun v=>k v objs | _,_=>none
 | .call { callee:=.builtin .cap,args,argTypes }=>match args.toList,argTypes.toList with | [x],t::_=>capK E t objs (ev T x) fun v=>k v objs | _,_=>none
 | .call { callee:=.builtin .append,args,argTypes }=>match args.toList,argTypes.toList with | [d,x],[t,u]=>bif (E.ti u).d.isRow then z100 E t objs (ev T d) (ev T x) k else bif z1ao (E.ti u).d then ze3 E t objs (ev T d) (ev T x) k else none | _,_=>none
 | .call { callee:=.builtin .copy,args,argTypes }=>match args.toList,argTypes.toList with | [d,x],[t,_]=>(match (E.ti t).d with | .slice e=>(bif (E.ti e).d.known then copyK objs (ev T d) (ev T x) fun v=>k v objs else none) | _=>none) | _,_=>none
 | .call { callee:=.builtin .clear,args,argTypes }=>match args.toList,argTypes.toList with | [x],[t]=>z18g E t objs (ev T x) fun objs=>k (.tuple []) objs | _,_=>none
 | .call { callee:=.builtin .max,args,.. }=>mmK true (args.toList.map (ev T)) fun v=>k v objs
 | .call { callee:=.builtin .min,args,.. }=>mmK false (args.toList.map (ev T)) fun v=>k v objs
 | _=>none
inductive Spec where
 | same (x:Operand)
 | mnz (e:Nat) (x:Operand)
 | sdata (x:Operand)
 | ustr (u:Nat) (p n:Operand)
 | peq (neg:Bool) (t:Nat) (x y:Operand)
def findN (g:Nat):List (Nat×Nat)→Option Nat
 | []=>none
 | (a,b)::r=>bif g == a then some b else findN g r
def z2a (E:Env) (o:Op):Option Spec :=
 match o with
 | .call { callee:=.value (.func g),args,.. }=>match args.toList with
  | [x]=>bif memN g E.same then some (.same x) else match findN g E.mnz with | some e=>some (.mnz e x) | none=>none
  | _=>none
 | .call { callee:=.builtin .unsafeSliceData,args,.. }=>match args.toList with | [x]=>some (.sdata x) | _=>none
 | .call { callee:=.builtin .unsafeString,args,argTypes }=>match args.toList,argTypes.toList with
  | [p,n],[t,_]=>match (E.ti t).d with | .ptr u=>some (.ustr u p n) | _=>none
  | _,_=>none
 | .binOp .eql t (.tmp a) (.tmp b) _=>match (E.ti t).d with | .ptr _=>some (.peq false t (.tmp a) (.tmp b)) | _=>none
 | .binOp .neq t (.tmp a) (.tmp b) _=>match (E.ti t).d with | .ptr _=>some (.peq true t (.tmp a) (.tmp b)) | _=>none
 | _=>none
def specK (E:Env) (T:List PV) (objs:List Obj) (s:Spec) (k:PV→List Obj→Option R):Option R :=
 match s with
 | .same x=>k (ev T x) objs
 | .mnz e x=>match ev T x with
  | .int .i64 n=>z2o (decide (0≤n∧n≤281474976710656)) (k (.raw objs.length n.toNat) (objs++[.row e 1 [] 0 none]))
  | _=>none
 | .sdata x=>match ev T x with
  | .sl0=>k .nilp objs
  | .lall i=>match nthD .dead objs i with | .row _ _ l _ _=>bif isNilL l then none else k (.rptr i 0 0) objs | _=>none
  | _=>none
 | .ustr u p n=>match ev T p,ev T n with
  | .nilp,.int .i64 n=>z2o (decide (n=0)) (k (.str []) objs)
  | .rptr i 0 0,.int .i64 n=>match nthD .dead objs i with
   | .row e 1 l _ _=>bif (e == u)&&(E.ti u).d.known&&((E.ti u).size == 1)&&!isNilL l then z2o (decide (n=(l.length:Nat)∧n≤9223372036854775807)) ((z7h l).bind fun s=>k (.str s) (setN objs i .dead)) else none
   | _=>none
  | _,_=>none
 | .peq neg t x y=>match ev T x,ev T y with
  | .ptr i a,.ptr j b=>match nthD .dead objs i,(E.ti t).d with
   | .cells _ _ _,.ptr e=>bif (i == j)&&(a == b)&&(E.ti e).d.known then k (.bool (!neg)) objs else none
   | _,_=>none
  | _,_=>none
def resTIs (E:Env) (t:Nat):List TI:=match (E.ti t).d with | .tuple ts=>ts.map E.ti | _=>[E.ti t]
def leafPV:PV→Bool | .int .. | .bool _ | .str _=>true | _=>false
def plainPV:PV→Bool | .int .. | .bool _ | .str _=>true | .agg l=>allB leafPV l | _=>false
def plainFn (E:Env) (f:PV):Bool :=
 match f with
 | .func (.func g) [] []=>match E.P.funcs[g]? with | some fn=>allB (fun t=>allB z1t (E.ti t).leaves) fn.params.toList | none=>false
 | _=>false
def z1el (E:Env) (C:Orc) (t:Nat) (f:PV) (args:List PV) (objs:List Obj) (k:PV→List Obj→Option R):Option R :=
 bif plainFn E f then (bif allB plainPV args then (C (resTIs E t) f args).bind fun v=>k (zk3 (resTIs E t) v) objs else none) else
 match purify pfuel objs f with
 | some (f,objs1)=>match purifyL pfuel objs1 args with
  | some (args,objs2)=>(C (resTIs E t) f args).bind fun v=>k (zk3 (resTIs E t) v) (bif allB (fun ti=>allB z1t ti.leaves) (resTIs E t) then objs else objs2)
  | none=>none
 | none=>none
inductive Mode where
 | run | ret | pan (v:PV) (rec:Bool)
 deriving Inhabited
structure AFr where
 fn:Nat
 T:List PV
 todo:List Item
 defers:List (PV×List PV):=[]
 mode:Mode:=.run
 late:Bool:=false
 round:Option PV:=none
 wait:Option PV:=none
 deriving Inhabited
structure Conf where
 fn:Nat
 T:List PV
 todo:List Item
 rest:List AFr
 objs:List Obj
 defers:List (PV×List PV):=[]
 mode:Mode:=.run
 late:Bool:=false
 round:Option PV:=none
def AFr.conf (f:AFr) (rest:List AFr) (objs:List Obj):Conf:={ fn:=f.fn,T:=f.T,todo:=f.todo,rest,objs,defers:=f.defers,mode:=f.mode,late:=f.late,round:=f.round }
def Conf.fr (c:Conf):AFr:={ fn:=c.fn,T:=c.T,todo:=c.todo,defers:=c.defers,mode:=c.mode,late:=c.late,round:=c.round }
def z77 (i:Nat):List Nat→Nat→Option Nat
 | [],_=>none
 | j::l,n=>bif i == j then some n else z77 i l (n+1)
def mapL (f:PV→PV):List PV→List PV
 | []=>[]
 | v::vs=>f v::mapL f vs
def ren (p:List Nat):Nat→PV→PV
 | 0,_=>.undef
 | n+1,v=>match v with
  | .ptr i off=>match z77 i p 0 with | some j=>.ptr j off | none=>.undef
  | .rptr i kk off=>match z77 i p 0 with | some j=>.rptr j kk off | none=>.undef
  | .lall i=>match z77 i p 0 with | some j=>.lall j | none=>.undef
  | .lsl i off len lim=>match z77 i p 0 with | some j=>.lsl j off len lim | none=>.undef
  | .raw i n=>match z77 i p 0 with | some j=>.raw j n | none=>.undef
  | .mapr i=>match z77 i p 0 with | some j=>.mapr j | none=>.undef
  | .iface t v=>.iface t (ren p n v)
  | .func f a b=>.func f (mapL (ren p n) a) (mapL (ren p n) b)
  | .agg l=>.agg (mapL (ren p n) l)
  | .tuple l=>.tuple (mapL (ren p n) l)
  | v=>v
def renL (p:List Nat) (n:Nat) (l:List PV):List PV:=mapL (ren p n) l
def renQ (p:List Nat):Option PV→Option PV
 | some v=>some (ren p pfuel v)
 | none=>none
def renO (p:List Nat):Obj→Obj
 | .cells e l f=>.cells e (renL p pfuel l) f
 | .map ks vs true f=>.map ks (renL p pfuel vs) true f
 | .loop st pd fn T ps as bd=>.loop st pd fn (renL p pfuel T) ps as bd
 | .bmap e0 e1=>.bmap (renQ p e0) (renQ p e1)
 | o=>o
def ownT:List (Nat×Nat×Nat)→List PV→List Obj→List PV×List Obj
 | [],T,o=>(T,o)
 | (s,e,z)::ss,T,o=>match nthD .undef T s with
  | .sl0=>ownT ss (setN T s (.lall o.length)) (o++[.row e z [] 0 none])
  | _=>ownT ss T o
mutual
def refs:Nat→PV→List Nat
 | 0,_=>[]
 | _+1,.ptr i _ | _+1,.rptr i _ _ | _+1,.lall i | _+1,.lsl i _ _ _ | _+1,.raw i _ | _+1,.mapr i=>[i]
 | n+1,.iface _ v=>refs n v
 | n+1,.func _ a b=>refsL n a++refsL n b
 | n+1,.agg l | n+1,.tuple l=>refsL n l
 | _+1,_=>[]
def refsL:Nat→List PV→List Nat
 | 0,_=>[]
 | _+1,[]=>[]
 | n+1,v::vs=>refs n v++refsL n vs
end
def refsO:Option PV→List Nat
 | some v=>refs pfuel v
 | none=>[]
def reach:Nat→List Obj→List Nat→List Nat→List Nat
 | 0,_,_,seen=>seen.reverse
 | _+1,_,[],seen=>seen.reverse
 | n+1,o,i::is,seen=>match z77 i seen 0 with
  | some _=>reach n o is seen
  | none=>match nthD .dead o i with
   | .cells _ l _=>reach n o (is++refsL pfuel l) (i::seen)
   | .map _ vs true _=>reach n o (is++refsL pfuel vs) (i::seen)
   | .loop _ _ _ T _ _ _=>reach n o (is++refsL pfuel T) (i::seen)
   | .bmap e0 e1=>reach n o (is++(refsO e0++refsO e1)) (i::seen)
   | _=>reach n o is (i::seen)
def refsD:List (PV×List PV)→List Nat
 | []=>[]
 | (f,as)::ds=>refs pfuel f++(refsL pfuel as++refsD ds)
def refsM:Mode→List Nat
 | .pan v _=>refs pfuel v
 | _=>[]
def rootsL:List AFr→List Nat
 | []=>[]
 | f::fs=>refsL pfuel f.T++(refsD f.defers++(refsM f.mode++(refsO f.round++(refsO f.wait++rootsL fs))))
def killT (keep:List Nat):Nat→List PV→List PV
 | _,[]=>[]
 | n,v::vs=>(match z77 n keep 0 with | some _=>v | none=>.undef)::killT keep (n+1) vs
def killF:List (List Nat)→List AFr→List AFr
 | k::ks,f::fs=>{ f with T:=killT k 0 f.T }::killF ks fs
 | [],f::fs=>{ f with T:=killT [] 0 f.T }::killF [] fs
 | _,[]=>[]
def renD (p:List Nat):List (PV×List PV)→List (PV×List PV)
 | []=>[]
 | (f,as)::ds=>(ren p pfuel f,renL p pfuel as)::renD p ds
def renM (p:List Nat):Mode→Mode
 | .pan v r=>.pan (ren p pfuel v) r
 | m=>m
def renF (p:List Nat):List AFr→List AFr
 | []=>[]
 | f::fs=>{ f with T:=renL p pfuel f.T,defers:=renD p f.defers,mode:=renM p f.mode,round:=renQ p f.round,wait:=renQ p f.wait }::renF p fs
def mapO (p:List Nat) (o:List Obj):List Nat→List Obj
 | []=>[]
 | i::is=>renO p (nthD .dead o i)::mapO p o is
def cutC (d:Dir) (c:Conf):Conf :=
 match ownT d.own c.T c.objs with
 | (T,objs) =>
  match killT d.keep 0 T,killF d.lower c.rest with
  | T,rest =>
   match reach pfuel objs (refsL pfuel T++(refsD c.defers++(refsO c.round++rootsL rest))) [] with
   | p=>{ c with T:=renL p pfuel T,rest:=renF p rest,objs:=mapO p objs p,defers:=renD p c.defers,round:=renQ p c.round }
def z154:List Nat→List Nat→Bool
 | [],[]=>true
 | a::l,b::m=>(a == b)&&z154 l m
 | _,_=>false
def findFn (f:Nat):List (Nat×List ((List Nat×Nat)×Dir))→List ((List Nat×Nat)×Dir)
 | []=>[]
 | (g,l)::r=>bif f == g then l else findFn f r
def findDir (fns:List Nat) (id:Nat):List ((List Nat×Nat)×Dir)→Option Dir
 | []=>none
 | ((f,i),d)::r=>bif (i == id)&&z154 f fns then some d else findDir fns id r
def fnsOf (c:Conf):List Nat:=c.fn::c.rest.map (·.fn)
def putT (T:List PV) (dst:Option Nat) (v:PV):List PV:=match dst with | some d=>setN T d v | none=>T
def funcTI (E:Env) (f:Nat):List TI:=match E.P.funcs[f]? with | some fn=>fn.resultTypes.toList.map E.ti | none=>[]
def resV (E:Env) (objs:List Obj) (T:List PV):List ResultVar→List PV→(List PV→Option R)→Option R
 | [],acc,k=>k acc.reverse
 | .tmp t::r,acc,k=>resV E objs T r (nthD .undef T t::acc) k
 | .cell a t::r,acc,k=>loadK E t objs (nthD .undef T a) fun v=>resV E objs T r (v::acc) k
def oneOf:List PV→PV
 | [v]=>v
 | l=>.tuple l
def mem2 (a b:Nat):List (Nat×Nat)→Bool
 | []=>false
 | (x,y)::r=>((a == x)&&(b == y))||mem2 a b r
def busyB:LoopState→Bool
 | .busy=>true
 | _=>false
def jumpSt:Option Code→LoopState
 | none=>.ready
 | some _=>.done
def goesOn:Option Code→Bool
 | none=>true
 | some _=>false
def jumpL:Option Code→List Item
 | some j=>[.code j]
 | none=>[]
def zzh (f:AFr) (fs:List AFr) (objs:List Obj) (v:PV):Option Conf :=
 match f.mode,f.wait with
 | .run,none=>match f.todo with
  | .inRegion ops (i::is)::t=>some { fn:=f.fn,T:=putT f.T ((ops[i]?).bind (·.dst)) v,todo:=.inRegion ops is::t,rest:=fs,objs,defers:=f.defers,mode:=.run,late:=f.late,round:=f.round }
  | _=>none
 | .run,some (.mapr i)=>match nthD .dead objs i with
  | .loop st pd _ _ _ _ _=>bif busyB st then none else some { fn:=f.fn,T:=f.T,todo:=jumpL pd++f.todo,rest:=fs,objs:=setN objs i .dead,defers:=f.defers,mode:=.run,late:=f.late,round:=f.round }
  | _=>none
 | _,_=>none
def zp3 (c:Conf) (jump:Option Code):Option Conf :=
 match c.round,c.rest with
 | some (.mapr i),f::fs=>match nthD .dead c.objs i with
  | .loop _ _ fn T ps as bd=>bif c.late then none else zzh f fs (setN c.objs i (.loop (jumpSt jump) jump fn T ps as bd)) (.bool (goesOn jump))
  | _=>none
 | _,_=>none
def z1ju (c:Conf) (t:List Item):Option Conf :=
 match c.round with
 | some (.mapr i)=>match nthD .dead c.objs i with
  | .loop .ready pd fn T ps as bd=>some { c with todo:=t,objs:=setN c.objs i (.loop .busy pd fn T ps as bd) }
  | _=>none
 | _=>none
def z144:Operand→List Nat
 | .tmp t=>[t]
 | _=>[]
def opsSl:List Oper→List Nat
 | []=>[]
 | o::os=>o.op.operands.toList.flatMap z144++opsSl os
def zkz:Code→List Nat
 | .seq a b=>zkz a++zkz b
 | .cond x a b=>z144 x++(zkz a++zkz b)
 | .block _ a=>zkz a
 | .loop a=>zkz a
 | .scope a=>zkz a
 | .region _ ops _=>opsSl ops.toList
 | .rangeFunc x _ a b=>z144 x++(zkz a++zkz b)
 | _=>[]
def loopC (c:Conf) (ps:Array Nat) (as bd:Code) (t:List Item):Conf×AFr×PV :=
 ({ c with objs:=c.objs++[.dfr,.loop .ready none c.fn (killT (zkz as++zkz bd) 0 c.T) ps as bd] },
  { c.fr with todo:=t,wait:=some (.mapr (c.objs.length+1)),defers:=(.mapr c.objs.length,[])::c.defers },
  .func (.yield 0) [.mapr (c.objs.length+1)] [])
def setPs:List PV→List Nat→List PV→List PV
 | T,p::ps,v::vs=>setPs (setN T p v) ps vs
 | T,_,_=>T
def yieldC (E:Env) (c:Conf) (below:AFr) (i:Nat) (args:List PV):Option Conf :=
 match nthD .dead c.objs i with
 | .loop _ _ fn T ps as bd=>bif mem2 c.fn fn E.inl&&(args.length == ps.size) then some { fn,T:=setPs T ps.toList args,todo:=[.code as,.beginRound,.code bd],rest:=below::c.rest,objs:=c.objs,round:=some (.mapr i) } else none
 | _=>none
def markC (c:Conf) (i:Nat) (ds:List (PV×List PV)):Option Conf :=
 match nthD .dead c.objs i with
 | .dfr=>some { c with defers:=ds,objs:=setN c.objs i .dead }
 | _=>none
def giveK (c:Conf) (vs:List PV) (k:Conf→Option R) (kd:PV→Option R):Option R :=
 match c.rest with
 | []=>bif c.late then none else match purify pfuel c.objs (oneOf vs) with | some (v,_)=>kd v | none=>none
 | f::fs=>bif c.late then (match f.mode with
   | .pan _ true=>k (AFr.conf { f with mode:=.ret } fs c.objs)
   | .pan _ false=>k (AFr.conf f fs c.objs)
   | .ret=>k (AFr.conf f fs c.objs)
   | .run=>none)
  else (zzh f fs c.objs (oneOf vs)).bind k
def retK (E:Env) (c:Conf) (k:Conf→Option R) (kd:PV→Option R):Option R :=
 match c.defers with
 | []=>match E.P.funcs[c.fn]? with
  | some fn=>resV E c.objs c.T fn.results.toList [] fun vs=>giveK c vs k kd
  | none=>none
 | _::_=>k { c with mode:=.ret }
def z157 (E:Env) (c:Conf) (g:Nat) (as:List PV) (below:AFr) (late:Bool) (k:Conf→Option R):Option R :=
 match E.P.funcs[g]? with
 | some fn=>match fn.body with
  | some body=>k { fn:=g,T:=as++repl .undef (fn.ntmps-as.length),todo:=[.code body],rest:=below::c.rest,objs:=c.objs,late:=late }
  | none=>none
 | none=>none
def killO:List Oper→List PV→List PV
 | [],T=>T
 | o::os,T=>killO os (putT T o.dst .undef)
def z14h (f:AFr):List PV:=match f.todo with | .inRegion ops _::_=>killO ops.toList f.T | _=>f.T
def z1f8 (E:Env) (c:Conf) (k:Conf→Option R) (kd:PV→Option R):Option R :=
 match c.defers with
 | (d,as)::ds=>match c.mode,d with
  | .pan _ true,_=>none
  | _,.func (.func g) a b=>z157 E c g (a++as++b) { c.fr with defers:=ds } true k
  | .ret,.mapr i=>(markC c i ds).bind k
  | _,_=>none
 | []=>match c.mode with
  | .ret=>retK E c k kd
  | .pan v false=>match E.P.funcs[c.fn]?,c.rest with
   | some _,f::fs=>bif c.late then none else match f.mode,f.wait with | .run,none=>k (AFr.conf { f with T:=z14h f,mode:=.pan v false } fs c.objs) | _,_=>none
   | _,_=>none
  | _=>none
def exitK (id:Nat) (c:Conf) (k:Conf→Option R):Option R :=
 match exitTo id c.todo with
 | some t=>k { c with todo:=t }
 | none=>(zp3 c (some (.exit id))).bind k
def zss (E:Env) (C:Orc) (c:Conf) (ops:Array Oper) (i:Nat) (is:List Nat) (t:List Item) (o:Oper) (fv:PV) (args:List PV) (k:Conf→Option R):Option R :=
 let via:=z1el E C o.type fv args c.objs fun v objs=>k { c with T:=putT c.T o.dst v,todo:=.inRegion ops is::t,objs }
 match fv with
 | .func (.func g) a b=>bif mem2 c.fn g E.inl then z157 E c g (a++args++b) { c.fr with todo:=.inRegion ops (i::is)::t } false k else via
 | .func (.yield _) [.mapr j] []=>match yieldC E c { c.fr with todo:=.inRegion ops (i::is)::t } j args with | some c'=>k c' | none=>via
 | _=>via
def findM (t:Nat) (name:String):List ((Nat×String)×Nat)→Option Nat
 | []=>none
 | ((u,n),f)::r=>bif (t == u)&&(name == n) then some f else findM t name r
def z1gg (E:Env) (C:Orc) (c:Conf) (ops:Array Oper) (i:Nat) (is:List Nat) (t:List Item) (o:Oper) (recv:PV) (name:String) (args:List PV) (k:Conf→Option R):Option R :=
 match recv with
 | .iface u v=>match findM u name E.mt with
  | some g=>bif mem2 c.fn g E.inl then z157 E c g (v::args) { c.fr with todo:=.inRegion ops (i::is)::t } false k
   else z1el E C o.type (.func (.func g) [] []) (v::args) c.objs fun v objs=>k { c with T:=putT c.T o.dst v,todo:=.inRegion ops is::t,objs }
  | none=>none
 | _=>none
def z1a3 (c:Conf) (ops:Array Oper) (is:List Nat) (t:List Item) (o:Oper) (k:Conf→Option R):Option R :=
 match c.late,c.rest,c.round with
 | true,f::fs,none=>match f.mode with
  | .pan v false=>k { c with T:=putT c.T o.dst v,todo:=.inRegion ops is::t,rest:={ f with mode:=.pan v true }::fs }
  | .ret=>k { c with T:=putT c.T o.dst .nili,todo:=.inRegion ops is::t }
  | _=>none
 | _,_,_=>none
def operK (E:Env) (C:Orc) (c:Conf) (ops:Array Oper) (i:Nat) (is:List Nat) (t:List Item) (o:Oper) (k:Conf→Option R):Option R :=
 match z2a E o.op with
 | some s=>specK E c.T c.objs s fun v objs=>k { c with T:=putT c.T o.dst v,todo:=.inRegion ops is::t,objs }
 | none =>
 match o.op with
 | .call { callee:=.value f,args,.. }=>zss E C c ops i is t o (ev c.T f) (args.toList.map (ev c.T)) k
 | .call { callee:=.invoke r name,args,.. }=>z1gg E C c ops i is t o (ev c.T r) name (args.toList.map (ev c.T)) k
 | .call { callee:=.builtin .recover,.. }=>z1a3 c ops is t o k
 | .panic x=>match ev c.T x with | .iface u v=>k { c with todo:=.inRegion ops (i::is)::t,mode:=.pan (.iface u v) false } | _=>none
 | .defer { callee:=.value f,args,.. }=>match c.round,ev c.T f with
  | none,.func (.func g) a b=>k { c with T:=putT c.T o.dst (.tuple []),todo:=.inRegion ops is::t,defers:=(.func (.func g) a b,args.toList.map (ev c.T))::c.defers }
  | _,_=>none
 | _=>opK E c.T c.objs o fun v objs=>k { c with T:=putT c.T o.dst v,todo:=.inRegion ops is::t,objs }
def z1hn (c:Conf) (ops:Array Oper) (is:List Nat) (t:List Item) (dst:Option Nat) (k:Conf→Option R):Option R :=
 k { c with T:=putT c.T dst (.tuple []),todo:=.inRegion ops is::t }
def z1ar (E:Env) (C:Orc) (c:Conf) (ops:Array Oper) (i:Nat) (is:List Nat) (t:List Item) (o:Oper) (k:Conf→Option R):Option R :=
 match o.guard with
 | none=>operK E C c ops i is t o k
 | some (j,want) =>
  match (ops[j]?).bind (·.dst) with
  | none=>z1hn c ops is t o.dst k
  | some d=>match nthD .undef c.T d with
   | .bool true=>bif want then operK E C c ops i is t o k else z1hn c ops is t o.dst k
   | .bool false=>bif want then z1hn c ops is t o.dst k else operK E C c ops i is t o k
   | .tuple _=>z1hn c ops is t o.dst k
   | _=>none
def slotOf (c:Conf):Option Nat :=
 match c.todo with
 | .code (.cond (.tmp s) _ _)::_=>some s
 | .inRegion ops (i::_)::_=>match ops[i]? with
  | some o=>match o.guard,o.op with
   | some (j,_),_=>(ops[j]?).bind (·.dst)
   | none,.pick (.tmp s) _ _=>some s
   | _,_=>none
  | none=>none
 | _=>none
def zoy (E:Env) (fn:Nat) (o:Oper):Bool :=
 match z2a E o.op with
 | some _=>true
 | none =>
 match o.op with
 | .call { callee:=.value (.func g),.. }=>!mem2 fn g E.inl
 | .call { callee:=.value _,.. } | .call { callee:=.invoke ..,.. }=>allB (fun p=>!(p.1 == fn)) E.inl
 | .call { callee:=.builtin .recover,.. } | .panic _ | .defer _=>false
 | _=>true
def zit (E:Env) (o:Oper):Nat :=
 match o.op with
 | .move _ | .assign _ | .pick .. | .build .. | .binOp .. | .unOp .. | .makeInterface .. | .makeFunc .. | .field .. | .index .. | .typeAssert .. | .extract ..=>0
 | .load .. | .slice .. | .indexAddr .. | .nilCheck _ | .fieldAddr ..=>1
 | .convert _ d _=>match (E.ti d).d with | .slice _=>2 | _=>1
 | .call { callee:=.builtin .len,.. } | .call { callee:=.builtin .cap,.. } | .call { callee:=.builtin .max,.. } | .call { callee:=.builtin .min,.. }=>1
 | .call { callee:=.value _,.. } | .call { callee:=.invoke ..,.. }=>bif allB (fun ti=>allB z1t ti.leaves) (resTIs E o.type) then 1 else 2
 | _=>2
def stable (ops:Array Oper) (a:Nat):Bool:=allB (fun o=>match o.dst with | some d=>!(d == a) | none=>true) ops.toList
def zol (ops:Array Oper) (T:List PV):Operand→Option PV
 | .tmp a=>bif stable ops a then some (nthD .undef T a) else none
 | _=>none
inductive Eff where
 | free | reads (i:Option (Option Nat)) | writes (j:Nat) | any
def z2n (a:Nat) (o:Oper):Bool:=match o.dst with | some d=>d == a | none=>false
def derOf (ops:Array Oper) (T:List PV):Nat→Operand→Option (Option Nat)
 | 0,_=>none
 | n+1,.tmp a=>match refOf (nthD .undef T a),ops.toList.filter (z2n a) with
  | none,[o]=>match o.op with
   | .alloc _=>match nthD .undef T a with | .resv i=>some (some i) | _=>none
   | .fieldAddr _ x _ | .nilCheck x | .move x | .indexAddr _ x _ | .slice _ x _ _ _=>match zol ops T x with | some v=>some (refOf v) | none=>derOf ops T n x
   | _=>none
  | _,_=>none
 | _,_=>none
def zbp (ops:Array Oper) (T:List PV) (x:Operand):Eff :=
 .reads (match zol ops T x with | some v=>some (refOf v) | none=>derOf ops T 8 x)
def z17n (ops:Array Oper) (T:List PV):Operand→Option Nat
 | .tmp a=>match nthD .undef T a,ops.toList.filter (z2n a) with
  | .resv i,[o]=>match o.op with | .alloc _=>some i | _=>none
  | _,_=>none
 | _=>none
def fldOf (ops:Array Oper) (T:List PV):Operand→Option Nat
 | .tmp a=>match refOf (nthD .undef T a),ops.toList.filter (z2n a) with
  | none,[o]=>match o.op with
   | .fieldAddr _ x _=>match zol ops T x with | some (.ptr j _)=>some j | _=>none
   | _=>none
  | _,_=>none
 | _=>none
def zxn (E:Env) (o:Oper):Eff:=match zit E o with | 0=>.free | 1=>.reads none | _=>.any
def z1an:Eff→Eff
 | .reads (some r)=>.reads (some r)
 | _=>.any
def z159 (E:Env) (ops:Array Oper) (T:List PV) (o:Oper):Eff :=
 match o.op with
 | .store t x _=>bif (E.ti t).d.isArr then .any else match zol ops T x with | some (.ptr j _)=>.writes j | some _=>.any | none=>match z17n ops T x with | some j=>.writes j | none=>match fldOf ops T x with | some j=>.writes j | none=>.any
 | .alloc _=>match o.dst with | some d=>(match z17n ops T (.tmp d) with | some j=>.writes j | none=>.any) | none=>.any
 | .load _ x=>zbp ops T x
 | .fieldAddr _ x _=>zbp ops T x
 | .nilCheck x=>zbp ops T x
 | .slice t x _ _ _=>(match (E.ti t).d with | .str=>.reads (some none) | _=>zbp ops T x)
 | .indexAddr _ x _=>zbp ops T x
 | .lookup _ m _ _=>z1an (zbp ops T m)
 | .call { callee:=.value (.func g),.. }=>bif plainFn E (.func (.func g) [] []) then .free else zxn E o
 | .call { callee:=.builtin .len,args,.. }=>match args.toList with | [x]=>zbp ops T x | _=>.reads none
 | _=>zxn E o
def effOf (E:Env) (ops:Array Oper) (T:List PV) (o:Oper):Eff:=match z2a E o.op with | some (.same _)=>.free | some (.sdata x)=>zbp ops T x | some _=>.any | none=>z159 E ops T o
def effOk:Eff→Eff→Bool
 | .free,_ | _,.free | .reads _,.reads _ | .any,.reads (some none) | .reads (some none),.any=>true
 | .writes j,.reads (some r) | .reads (some r),.writes j=>match r with | none=>true | some i=>!(i == j)
 | .writes i,.writes j=>!(i == j)
 | _,_=>false
def z1jx (E:Env) (o:Oper):Bool:=match z2a E o.op with | some (.mnz _ _)=>true | some _=>false | none=>match o.op with | .makeMap _ _=>true | _=>false
def lookB (E:Env) (o:Oper):Bool :=
 match z2a E o.op with
 | some _=>false
 | none=>match o.op with
  | .load .. | .fieldAddr .. | .nilCheck .. | .slice .. | .indexAddr ..=>true
  | .call { callee:=.builtin .len,.. } | .call { callee:=.builtin .cap,.. }=>true
  | _=>false
def callB (E:Env) (o:Oper):Bool :=
 match z2a E o.op with
 | some _=>false
 | none=>match o.op with
  | .call { callee:=.value _,.. }=>true
  | .insert ..=>true
  | _=>false
def peekB (E:Env) (o:Oper):Bool :=
 match z2a E o.op with
 | some _=>false
 | none=>match o.op with
  | .load .. | .fieldAddr .. | .nilCheck ..=>true
  | _=>false
def insB (E:Env) (o:Oper):Bool :=
 match z2a E o.op with
 | some _=>false
 | none=>match o.op with
  | .insert t _ _ _=>(match (E.ti t).d with | .map kt _=>boolD (E.ti kt).d | _=>false)
  | _=>false
def clsOk (E:Env) (ops:Array Oper) (T:List PV) (x y:Oper):Bool :=
 insB E x&&insB E y||effOk (effOf E ops T x) (effOf E ops T y)||z1jx E x&&lookB E y||lookB E x&&z1jx E y||callB E x&&peekB E y||peekB E x&&callB E y
def zpx (E:Env) (T:List PV) (ops:Array Oper) (x:Oper) (i:Nat):List Nat→List Nat→Bool
 | _,[]=>true
 | seen,j::js=>match ops[j]? with
  | some oj=>bif Nat.ble j i then zpx E T ops x i seen js
   else bif oj.after.any (fun e=>Region.binds .any e&&memN e.on seen) then zpx E T ops x i (j::seen) js
   else clsOk E ops T x oj&&zpx E T ops x i seen js
  | none=>zpx E T ops x i seen js
def z1i3 (ops:Array Oper):Bool:=allB (fun o=>match o.op,o.dst with | .alloc _,some d=>(match ops.toList.filter (z2n d) with | [_]=>true | _=>false) | _,_=>true) ops.toList
def drawOk (E:Env) (T:List PV) (fn:Nat) (ops:Array Oper):Bool :=
 allB (zoy E fn) ops.toList&&z1i3 ops&&Region.lexB .any ops&&allB (fun i=>match ops[i]? with | some o=>zpx E T ops o i [i] (List.range ops.size) | none=>true) (List.range ops.size)
def zoi (E:Env) (o:Oper):Bool :=
 match z2a E o.op with
 | some _=>false
 | none=>match o.guard with
  | some _=>false
  | none=>match o.op with
   | .move _ | .nilCheck _ | .fieldAddr .. | .load .. | .indexAddr .. | .binOp ..=>true
   | _=>false
def z17p (o:Oper):Bool:=match o.op with | .move _ | .nilCheck _ | .fieldAddr ..=>true | _=>false
def z1is (E:Env) (fn:Nat) (o:Oper):Bool :=
 match z2a E o.op with
 | some _=>false
 | none=>match o.guard with
  | some _=>false
  | none=>match o.op with
   | .call { callee:=.value (.func g),.. }=>mem2 fn g E.inl
   | _=>false
def edgeB (o:Oper) (j:Nat):Bool:=o.after.any fun e=>Region.binds .any e&&(e.on == j)
def operandOk (ops:Array Oper) (o:Oper) (x:Operand):Bool :=
 match x with
 | .tmp s=>allB (fun j=>match ops[j]? with | some oj=>!(z2n s oj)||edgeB o j | none=>true) (List.range ops.size)
 | _=>true
def zsc (ops:Array Oper) (o:Oper):Bool:=allB (operandOk ops o) o.op.operands.toList
def closB (ops:Array Oper):Nat→List Nat→List Nat
 | 0,seen=>seen
 | k+1,seen=>closB ops k (bif seen.any (fun m=>match ops[m]? with | some om=>edgeB om k | none=>false) then k::seen else seen)
def onceB (ops:Array Oper):Bool :=
 allB (fun i=>match ops[i]? with
  | some oi=>(match oi.dst with | some d=>allB (fun j=>(i == j)||(match ops[j]? with | some oj=>!(z2n d oj) | none=>true)) (List.range ops.size) | none=>true)
  | none=>true) (List.range ops.size)
def downB (ops:Array Oper):Bool :=
 allB (fun i=>match ops[i]? with | some o=>allB (fun e=>!(Region.binds .any e)||Nat.blt e.on i) o.after.toList | none=>true) (List.range ops.size)
def zsn (E:Env) (fn:Nat) (ops:Array Oper) (p:Nat):Bool :=
 (match ops[p]? with | some o=>z1is E fn o&&zsc ops o | none=>false) &&
 allB (fun i=>match ops[i]? with | some o=>zoi E o&&zsc ops o&&(z17p o||memN i (closB ops p [p])) | none=>false) (List.range p) &&
 onceB ops&&downB ops&&((p+1 == ops.size)||((p+2 == ops.size)&&allB (fun i=>memN i (closB ops (p+1) [p+1])) (List.range (p+1))))
def loudAt (E:Env) (fn:Nat) (ops:Array Oper):Option Nat :=
 bif zsn E fn ops (ops.size-1) then some (ops.size-1) else bif zsn E fn ops (ops.size-2) then some (ops.size-2) else none
def z19f (E:Env) (C:Orc) (c:Conf) (k:Conf→Option R) (kd:PV→Option R):Option R :=
 match c.todo with
 | []=>(match c.round with | none=>retK E c k kd | some _=>(zp3 c none).bind k)
 | .code .ret::_=>(match c.round with | none=>retK E c k kd | some _=>(zp3 c (some .ret)).bind k)
 | .beginRound::t=>(z1ju c t).bind k
 | .code (.rangeFunc x ps as bd)::t=>match c.round,ev c.T x with
  | none,.func (.func g) a b=>bif mem2 c.fn g E.inl then z157 E (loopC c ps as bd t).1 g (a++[(loopC c ps as bd t).2.2]++b) (loopC c ps as bd t).2.1 false k else none
  | _,_=>none
 | .code .skip::t | .code (.label _)::t | .inBlock _::t | .inScope _::t=>k { c with todo:=t }
 | .code (.seq a b)::t=>k { c with todo:=.code a::.code b::t }
 | .code (.cond x a b)::t=>match ev c.T x with
  | .bool true=>k { c with todo:=.code a::t }
  | .bool false=>k { c with todo:=.code b::t }
  | _=>none
 | .code (.block id a)::t=>k { c with todo:=.code a::.inBlock id::t }
 | .code (.loop a)::t=>k { c with todo:=.code a::.inLoop a::t }
 | .inLoop a::t=>k { c with todo:=.code a::.inLoop a::t }
 | .code (.scope a)::t=>k { c with todo:=.code a::.inScope a::t }
 | .code (.exit id)::t=>exitK id { c with todo:=t } k
 | .code (.region _ ops false)::t=>k { c with todo:=.inRegion ops (List.range ops.size)::t }
 | .code (.region _ ops true)::t=>bif drawOk E (resvL ops.toList c.T c.objs).1 c.fn ops then k { c with T:=(resvL ops.toList c.T c.objs).1,objs:=(resvL ops.toList c.T c.objs).2,todo:=.inRegion ops (List.range ops.size)::t } else match loudAt E c.fn ops with | some _=>k { c with todo:=.inRegion ops (List.range ops.size)::t } | none=>none
 | .inRegion _ []::t=>k { c with todo:=t }
 | .inRegion ops (i::is)::t=>match ops[i]? with
  | some o=>z1ar E C c ops i is t o k
  | none=>k { c with todo:=.inRegion ops is::t }
 | _=>none
def stepK (E:Env) (C:Orc) (c:Conf) (k:Conf→Option R) (kd:PV→Option R):Option R :=
 match c.mode with
 | .run=>z19f E C c k kd
 | _=>z1f8 E c k kd
def stepP (E:Env) (C:Orc) (c:Conf) (k:Conf→Option R) (kd:PV→Option R):Option R :=
 match slotOf c with
 | some s=>match nthD .undef c.T s with
  | .bool b=>bif b then stepK E C { c with T:=setN c.T s (.bool true) } k kd else stepK E C { c with T:=setN c.T s (.bool false) } k kd
  | _=>stepK E C c k kd
 | none=>stepK E C c k kd
end
def atCut (E:Env) (c:Conf):Option Dir :=
 match c.mode,c.todo with
 | .run,.code (.region id _ _)::_=>findDir (fnsOf c) id (findFn c.fn E.ann)
 | _,_=>none
def normC (E:Env) (c:Conf):Conf:=match atCut E c with | some d=>cutC d c | none=>c
def filt (tis:List TI):Option PV→Option PV
 | some v=>bif zg4 tis v then some v else none
 | none=>none
def runN (E:Env) (C:Orc) (tis:List TI):Nat→Conf→Option PV
 | 0,_=>none
 | n+1,c=>stepP E C c (fun c'=>runN E C tis n (normC E c')) (fun v=>filt tis (some v))
def argsIn:List TI→List PV→Option (List PV)
 | [],[]=>some []
 | [],v::vs=>bif okOther v then (match argsIn [] vs with | some l=>some (.opq v 0::l) | none=>none) else none
 | t::ts,v::vs=>bif hasTy t v then (match argsIn ts vs with | some l=>some (z6l t v::l) | none=>none) else none
 | _::_,[]=>none
def enterC (fn:Nat) (f:Func) (body:Code) (args:List PV):Conf :=
 { fn,T:=args++repl .undef (f.ntmps-args.length),todo:=[.code body],rest:=[],objs:=[] }
def zfs (f:Nat):List (Nat×(List PV→Option PV))→Option (List PV→Option PV)
 | []=>none
 | (g,m)::r=>bif f == g then some m else zfs f r
def z1dd (E:Env) (fn:Func):List TI:=fn.params.toList.map E.ti
def zx3 (E:Env) (g:Nat) (args:List PV):Option Conf :=
 match E.P.funcs[g]? with
 | some fn=>match fn.body with
  | some body=>match argsIn (z1dd E fn) args with
   | some as=>some (normC E (enterC g fn body as))
   | none=>none
  | none=>none
 | none=>none
def callN (E:Env):Nat→Orc
 | 0,_,_,_=>none
 | n+1,tis,f,args=>match f with
  | .func (.func g) a b=>match zfs g E.ext with
   | some m=>filt tis (m (a++args++b))
   | none=>match zx3 E g (a++args++b) with
    | some c=>runN E (callN E n) tis n c
    | none=>none
  | _=>none
def z135 (E:Env) (C:Orc) (tis:List TI) (run:Conf→Option PV):Nat→Conf→Option PV
 | 0,c=>run c
 | n+1,c=>stepP E C c (fun c'=>match atCut E c' with | some d=>run (cutC d c') | none=>z135 E C tis run n c') (fun v=>filt tis (some v))
end Dv

namespace Dv
open Go
open Classical in
noncomputable def lim {α:Type} (g:Nat→Option α):Option α:=if h:∃ r n,g n=some r then some h.choose else none
noncomputable def callW (E:Env):Orc:=fun tis f args=>lim fun n=>callN E n tis f args
noncomputable def runW (E:Env) (tis:List TI) (c:Conf):Option PV:=lim fun n=>runN E (callN E n) tis n c
def funTI (E:Env) (g:Nat):List TI:=match E.P.funcs[g]? with | some fn=>fn.resultTypes.toList.map E.ti | none=>[]
noncomputable def callF (E:Env) (g:Nat) (args:List PV):Option PV:=callW E (funTI E g) (.func (.func g) [] []) args
def bodyOf (f:Func):Code:=match f.body with | some b=>b | none=>.skip
def z109 (id:Nat):Code→List Item→Option (List Item)
 | .region i ops d,k=>bif i == id then some (.code (.region i ops d)::k) else none
 | .seq a b,k=>match z109 id a (.code b::k) with | some t=>some t | none=>z109 id b k
 | .cond _ a b,k=>match z109 id a k with | some t=>some t | none=>z109 id b k
 | .block i c,k=>z109 id c (.inBlock i::k)
 | .loop c,k=>z109 id c (.inLoop c::k)
 | .scope c,k=>z109 id c (.inScope c::k)
 | _,_=>none
def todoOf (E:Env) (g id:Nat):List Item :=
 match E.P.funcs[g]? with
 | some f=>match z109 id (bodyOf f) [] with | some t=>t | none=>[]
 | none=>[]
def mkT (n:Nat) (l:List (Nat×PV)):List PV:=go l (repl .undef n)
where go:List (Nat×PV)→List PV→List PV
 | [],T=>T
 | (i,v)::r,T=>go r (setN T i v)
def za (E:Env) (g id:Nat) (T:List PV) (objs:List Obj):Conf:={ fn:=g,T,todo:=todoOf E g id,rest:=[],objs }
def dropN {α:Type}:Nat→List α→List α
 | 0,l=>l
 | _+1,[]=>[]
 | n+1,_::l=>dropN n l
def waitAt (E:Env) (g id i:Nat):List Item :=
 match todoOf E g id with
 | .code (.region _ ops _)::k=>.inRegion ops (dropN i (List.range ops.size))::k
 | _=>[]
def frAt (E:Env) (g id i:Nat) (T:List PV) (defers:List (PV×List PV)):AFr:={ fn:=g,T,todo:=waitAt E g id i,defers }
def confAtS (E:Env) (g id:Nat) (T:List PV) (objs:List Obj) (rest:List AFr) (defers:List (PV×List PV)):Conf:={ fn:=g,T,todo:=todoOf E g id,rest,objs,defers }
def zir:Code→List Item→List ((Array Nat×Code×Code)×List Item)
 | .rangeFunc _ ps as bd,k=>[((ps,as,bd),k)]
 | .seq a b,k=>zir a (.code b::k)++zir b k
 | .cond _ a b,k=>zir a k++zir b k
 | .block i c,k=>zir c (.inBlock i::k)
 | .loop c,k=>zir c (.inLoop c::k)
 | .scope c,k=>zir c (.inScope c::k)
 | _,_=>[]
def rangeAt (E:Env) (g k:Nat):(Array Nat×Code×Code)×List Item :=
 match E.P.funcs[g]? with
 | some f=>nthD ((#[],.skip,.skip),[]) (zir (bodyOf f) []) k
 | none=>((#[],.skip,.skip),[])
def loopAt (E:Env) (g k:Nat) (st:LoopState) (T:List PV):Obj:=match rangeAt E g k with | ((ps,as,bd),_)=>.loop st none g T ps as bd
def frAtL (E:Env) (g k:Nat) (T:List PV) (defers:List (PV×List PV)) (q:PV):AFr:={ fn:=g,T,todo:=(rangeAt E g k).2,defers,wait:=some q }
def argsK {R:Type}:List TI→List PV→(List PV→Option R)→Option R
 | [],[],k=>k []
 | [],v::vs,k=>bif okOther v then argsK [] vs (fun l=>k (.opq v 0::l)) else none
 | t::ts,v::vs,k=>bif hasTy t v then argsK ts vs (fun l=>k (z6l t v::l)) else none
 | _::_,[],_=>none
def z18x (E:Env) (C:Orc) (run:Conf→Option PV) (g:Nat) (args:List PV):Option PV :=
 match E.P.funcs[g]? with
 | some fn=>match fn.body with
  | some body=>argsK (z1dd E fn) args fun as=>z135 E C (funTI E g) run 100000 (normC E (enterC g fn body as))
  | none=>none
 | none=>none
noncomputable def z176 (E:Env) (g:Nat) (args:List PV):Option PV:=z18x E (callW E) (runW E (funTI E g)) g args
end Dv

namespace Dv
open Go
section
variable {R:Type}
def opD (E:Env) (T:List PV) (objs:List Obj) (o:Oper):Option (PV×List Obj):=opK E T objs o fun v objs=>some (v,objs)
theorem z3f {α:Type} (b:Bool) (x:Option α) (f:α→Option R):(z2o b x).bind f=z2o b (x.bind f):=by cases b <;> rfl
theorem zy {α:Type} (b:Bool) (x y:Option α) (f:α→Option R):(bif b then x else y).bind f=bif b then x.bind f else y.bind f:=by cases b <;> rfl
theorem zis {α β:Type} (o:Option β) (x:Option α) (y:β→Option α) (f:α→Option R):(z52 o x y).bind f=z52 o (x.bind f) (fun b=>(y b).bind f):=by cases o <;> rfl
theorem z3y (E:Env) (t:Nat) (objs:List Obj) (a:PV) (k:PV→Option R):loadK E t objs a k=(loadK E t objs a some).bind k:=by
 unfold loadK
 repeat' (first | rfl | simp only [Option.bind_assoc,zy,oB,Option.bind_none,Option.bind_fun_none] | split)
theorem zvl (E:Env) (t:Nat) (v:PV) (objs:List Obj) (k:PV→List Obj→Option R) :
  z10t E t v objs k=(z10t E t v objs fun v o=>some (v,o)).bind fun p=>k p.1 p.2:=by
 unfold z10t; split <;> rfl
theorem zi3 (E:Env) (t:Nat) (ps:List (Nat×PV)) (k:PV→Option R):z18j E t ps k=(z18j E t ps some).bind k:=by
 unfold z18j; simp only; repeat' (first | rfl | simp only [zy,oB,Option.bind_none] | split)
theorem z124 (E:Env) (t n:Nat) (ps:List (Nat×PV)) (objs:List Obj) (k:PV→List Obj→Option R) :
  ze2 E t n ps objs k=(ze2 E t n ps objs fun v o=>some (v,o)).bind fun p=>k p.1 p.2:=by
 unfold ze2; simp only; repeat' (first | rfl | simp only [zy,oB,Option.bind_none] | split)
theorem zv6 (E:Env) (t:Nat) (objs:List Obj) (a v:PV) (k:List Obj→Option R):zoh E t objs a v k=(zoh E t objs a v some).bind k:=by
 unfold zoh; simp only [zy]
 repeat' (first | rfl | simp only [zy,z3f,Option.bind_assoc,oB,Option.bind_none] | split)
theorem intK_bind (op:BinOp) (kd:IntKind) (a b:Int) (k:PV→Option R):intK op kd a b k=(intK op kd a b some).bind k:=by
 unfold intK; repeat' (first | rfl | simp only [zy,oB,Option.bind_none] | split)
theorem strK_bind (op:BinOp) (a b:List UInt8) (k:PV→Option R):strK op a b k=(strK op a b some).bind k:=by
 unfold strK; repeat' (first | rfl | simp only [zy,Option.bind_assoc,oB,Option.bind_none] | split)
theorem eqK_bind (E:Env) (t:Nat) (neg yc:Bool) (x y:PV) (k:PV→Option R):eqK E t neg yc x y k=(eqK E t neg yc x y some).bind k:=by
 unfold eqK; repeat' (first | rfl | simp only [zy,z3f,Option.bind_assoc,oB,Option.bind_none] | split)
theorem zl4 (E:Env) (op:BinOp) (t:Nat) (yc:Bool) (x y:PV) (k:PV→Option R):binK E op t yc x y k=(binK E op t yc x y some).bind k:=by
 unfold binK; repeat' (first | rfl | exact strK_bind .. | exact eqK_bind .. | split | simp only [zy,oB,Option.bind_none,← intK_bind])
theorem zwn (op:UnOp) (x:PV) (k:PV→Option R):unK op x k=(unK op x some).bind k:=by unfold unK; repeat' (first | rfl | split)
theorem z1lq (E:Env) (s d:Nat) (objs:List Obj) (x:PV) (k:PV→List Obj→Option R) :
  convK E s d objs x k=(convK E s d objs x fun v o=>some (v,o)).bind fun p=>k p.1 p.2:=by
 unfold convK; repeat' (first | rfl | simp only [zy,Option.bind_assoc,oB,Option.bind_none] | split)
theorem zeo (E:Env) (t:Nat) (objs:List Obj) (x:PV) (k:PV→Option R):lenK E t objs x k=(lenK E t objs x some).bind k:=by
 unfold lenK; repeat' (first | rfl | simp only [Option.bind_assoc,oB,Option.bind_none] | split)
theorem z18b {α:Type} (key:PV) (nf:Option α) (f:PV→Option α) (k:α→Option R):∀ ks vs,findC key (nf.bind k) (fun v=>(f v).bind k) ks vs=(findC key nf f ks vs).bind k
 | [],[]=>rfl
 | [],_::_=>rfl
 | _::_,[]=>rfl
 | a::ks,v::vs=>by
  simp only [findC]
  cases keyEq a key with
  | none=>rfl
  | some c=>cases c with
   | true=>rfl
   | false=>exact z18b key nf f k ks vs
theorem z142 {α:Type} (key x:PV) (g:List PV→List PV→Option α) (k:α→Option R):∀ ks vs ks0 vs0,putC key x (fun a b=>(g a b).bind k) ks0 vs0 ks vs=(putC key x g ks0 vs0 ks vs).bind k
 | [],[],_,_=>rfl
 | [],_::_,_,_=>rfl
 | _::_,[],_,_=>rfl
 | a::ks,v::vs,ks0,vs0=>by
  simp only [putC]
  cases keyEq a key with
  | none=>rfl
  | some c=>cases c with
   | true=>rfl
   | false=>exact z142 key x g k ks vs _ _
theorem z1am (E:Env) (et:Nat) (ok:Bool) (ks vs:List PV) (key:PV) (k:PV→Option R):zgu E et ok ks vs key k=(zgu E et ok ks vs key some).bind k:=by
 unfold zgu; simp only [Option.bind_assoc,zis,oB]
theorem zar (E:Env) (t:Nat) (ok:Bool) (objs:List Obj) (x key:PV) (k:PV→Option R):zvm E t ok objs x key k=(zvm E t ok objs x key some).bind k:=by
 unfold zvm
 repeat' (first | rfl | simp only [zy,zis,Option.bind_assoc,oB,Option.bind_none,← z1am,← z18b] | split)
theorem z1ak (E:Env) (t:Nat) (objs:List Obj) (r:Option PV) (k:PV→List Obj→Option R) :
  zlq E t objs r k=(zlq E t objs r fun v o=>some (v,o)).bind fun p=>k p.1 p.2:=by
 unfold zlq; repeat' (first | rfl | split)
theorem zbq (E:Env) (t:Nat) (objs:List Obj) (m key x:PV) (k:List Obj→Option R):z8o E t objs m key x k=(z8o E t objs m key x some).bind k:=by
 unfold z8o
 repeat' (first | rfl | simp only [zy,zis,Option.bind_assoc,oB,Option.bind_none,← z142] | split)
theorem zl3 (E:Env) (t:Nat) (objs:List Obj) (x:PV) (k:PV→Option R):capK E t objs x k=(capK E t objs x some).bind k:=by
 unfold capK; repeat' (first | rfl | split)
theorem z1l3 (objs:List Obj) (x:PV) (k:PV→List Obj→Option R):nextK objs x k=(nextK objs x fun v o=>some (v,o)).bind fun p=>k p.1 p.2:=by
 unfold nextK; repeat' (first | rfl | simp only [zy,oB,Option.bind_none] | split)
theorem z1y (objs:List Obj) (x:PV) (k:PV→Option R):z4m objs x k=(z4m objs x some).bind k:=by
 unfold z4m; repeat' (first | rfl | simp only [Option.bind_assoc,oB,Option.bind_none] | split)
theorem zq9 (E:Env) (t:Nat) (objs:List Obj) (d x:PV) (k:PV→List Obj→Option R) :
  z100 E t objs d x k=(z100 E t objs d x fun v o=>some (v,o)).bind fun p=>k p.1 p.2:=by
 unfold z100; repeat' (first | rfl | simp only [zy,z3f,Option.bind_assoc,oB,Option.bind_none] | split)
theorem zn0 (E:Env) (t:Nat) (objs:List Obj) (d x:PV) (k:PV→List Obj→Option R) :
  ze3 E t objs d x k=(ze3 E t objs d x fun v o=>some (v,o)).bind fun p=>k p.1 p.2:=by
 unfold ze3; repeat' (first | rfl | simp only [zy,z3f,Option.bind_assoc,oB,Option.bind_none] | split)
theorem z15q (E:Env) (t:Nat) (v:PV) (objs:List Obj) (k:PV→List Obj→Option R) :
  zn1 E t v objs k=(zn1 E t v objs fun v o=>some (v,o)).bind fun p=>k p.1 p.2:=by
 unfold zn1; repeat' (first | rfl | exact zvl .. | simp only [zy,oB,Option.bind_none] | split)
theorem zzt (objs:List Obj) (d x:PV) (k:PV→Option R):copyK objs d x k=(copyK objs d x some).bind k:=by
 unfold copyK; repeat' (first | rfl | split)
theorem zw2 (E:Env) (t:Nat) (objs:List Obj) (x:PV) (k:List Obj→Option R):z18g E t objs x k=(z18g E t objs x some).bind k:=by
 unfold z18g; repeat' (first | rfl | simp only [zy,z3f,Option.bind_assoc,oB,Option.bind_none] | split)
theorem zsd (mx:Bool) (l:List PV) (k:PV→Option R):mmK mx l k=(mmK mx l some).bind k:=by
 unfold mmK; repeat' (first | rfl | simp only [zy,oB,Option.bind_none] | split)
theorem z14e (E:Env) (t:Nat) (objs:List Obj) (l c:PV) (k:PV→List Obj→Option R) :
  zh3 E t objs l c k=(zh3 E t objs l c fun v o=>some (v,o)).bind fun p=>k p.1 p.2:=by
 unfold zh3; repeat' (first | rfl | simp only [zy,z3f,oB,Option.bind_none] | split)
theorem z16h (s:List UInt8) (lo hi mx:Option PV) (k:PV→Option R):zk1 s lo hi mx k=(zk1 s lo hi mx some).bind k:=by
 unfold zk1; repeat' (first | rfl | simp only [Option.bind_assoc,oB,Option.bind_none] | split)
theorem z19j (z:Nat) (s:List PV) (lo hi mx:Option PV) (k:PV→Option R):zs5 z s lo hi mx k=(zs5 z s lo hi mx some).bind k:=by
 unfold zs5; repeat' (first | rfl | simp only [Option.bind_assoc,oB,Option.bind_none] | split)
theorem z16i (lo hi mx:Option PV) (k:PV→Option R):zej lo hi mx k=(zej lo hi mx some).bind k:=by
 unfold zej; repeat' (first | rfl | simp only [z3f,oB,Option.bind_none] | split)
theorem ztt (i n:Nat) (lo hi mx:Option PV) (k:PV→Option R):z9i i n lo hi mx k=(z9i i n lo hi mx some).bind k:=by
 unfold z9i; repeat' (first | rfl | simp only [z3f,oB,Option.bind_none] | split)
theorem z13k (i off len n:Nat) (lo hi mx:Option PV) (k:PV→Option R):zh2 i off len n lo hi mx k=(zh2 i off len n lo hi mx some).bind k:=by
 unfold zh2; repeat' (first | rfl | simp only [z3f,oB,Option.bind_none] | split)
theorem z16j (E:Env) (n e:Nat) (objs:List Obj) (x:PV) (lo hi mx:Option PV) (k:PV→Option R):z9j E n e objs x lo hi mx k=(z9j E n e objs x lo hi mx some).bind k:=by
 unfold z9j; repeat' (first | rfl | simp only [zy,z3f,← ztt,Option.bind_none] | split)
theorem z6q (E:Env) (t:Nat) (objs:List Obj) (x:PV) (lo hi mx:Option PV) (k:PV→Option R) :
  zk2 E t objs x lo hi mx k=(zk2 E t objs x lo hi mx some).bind k:=by
 unfold zk2; repeat' (first | rfl | simp only [zy,z3f,← ztt,← z16h,← z19j,← z16i,← z13k,← z16j,Option.bind_none] | split)
theorem z1h (E:Env) (t:Nat) (objs:List Obj) (x:PV) (f:Nat) (k:PV→Option R):z1p E t objs x f k=(z1p E t objs x f some).bind k:=by
 unfold z1p; repeat' (first | rfl | simp only [zy,Option.bind_assoc,oB,Option.bind_none] | split)
theorem z1g6 (E:Env) (t:Nat) (cs:List PV) (off:Nat) (k:PV→Option R):z1dc E t cs off k=(z1dc E t cs off some).bind k:=by
 unfold z1dc; simp only [zy,oB,Option.bind_none]; repeat' (first | rfl | split)
theorem zho (E:Env) (t:Nat) (x:PV) (f:Nat) (k:PV→Option R):z18c E t x f k=(z18c E t x f some).bind k:=by
 unfold z18c; repeat' (first | rfl | split | exact z1g6 ..)
theorem z26 (E:Env) (t:Nat) (objs:List Obj) (x ix:PV) (k:PV→Option R):z56 E t objs x ix k=(z56 E t objs x ix some).bind k:=by
 unfold z56; repeat' (first | rfl | simp only [zy,z3f,Option.bind_assoc,oB,Option.bind_none] | split)
theorem zhj (E:Env) (t:Nat) (x ix:PV) (k:PV→Option R):z17y E t x ix k=(z17y E t x ix some).bind k:=by
 unfold z17y; repeat' (first | rfl | simp only [zy,z3f,Option.bind_assoc,oB,Option.bind_none] | split)
theorem zfk (E:Env) (x:PV) (a:Nat) (ok:Bool) (k:PV→Option R):zzz E x a ok k=(zzz E x a ok some).bind k:=by
 unfold zzz; repeat' (first | rfl | simp only [zy,zis,Option.bind_assoc,oB,Option.bind_none] | split)
theorem opK_bind (E:Env) (T:List PV) (objs:List Obj) (o:Oper) (k:PV→List Obj→Option R) :
  opK E T objs o k=(opD E T objs o).bind fun p=>k p.1 p.2:=by
 unfold opD opK
 repeat' first
  | rfl
  | (rw [z3y]; conv=>rhs; rw [z3y,Option.bind_assoc]
     rfl)
  | (rw [zi3]; conv=>rhs; rw [zi3,Option.bind_assoc]
     rfl)
  | (rw [zv6]; conv=>rhs; rw [zv6,Option.bind_assoc]
     rfl)
  | (rw [zl4]; conv=>rhs; rw [zl4,Option.bind_assoc]
     rfl)
  | (rw [zwn]; conv=>rhs; rw [zwn,Option.bind_assoc]
     rfl)
  | (rw [zeo]; conv=>rhs; rw [zeo,Option.bind_assoc]
     rfl)
  | (rw [zar]; conv=>rhs; rw [zar,Option.bind_assoc]
     rfl)
  | (rw [z1ak]; done)
  | (rw [zzt]; conv=>rhs; rw [zzt,Option.bind_assoc]
     rfl)
  | (rw [zw2]; conv=>rhs; rw [zw2,Option.bind_assoc]
     rfl)
  | (rw [zbq]; conv=>rhs; rw [zbq,Option.bind_assoc]
     rfl)
  | (rw [zl3]; conv=>rhs; rw [zl3,Option.bind_assoc]
     rfl)
  | (rw [z1y]; conv=>rhs; rw [z1y,Option.bind_assoc]
     rfl)
  | (rw [zsd]; conv=>rhs; rw [zsd,Option.bind_assoc]
     rfl)
  | (rw [z6q]; conv=>rhs; rw [z6q,Option.bind_assoc]
     rfl)
  | (rw [z1h]; conv=>rhs; rw [z1h,Option.bind_assoc]
     rfl)
  | (rw [zho]; conv=>rhs; rw [zho,Option.bind_assoc]
     rfl)
  | (rw [z26]; conv=>rhs; rw [z26,Option.bind_assoc]
     rfl)
  | (rw [zhj]; conv=>rhs; rw [zhj,Option.bind_assoc]
     rfl)
  | (rw [zfk]; conv=>rhs; rw [zfk,Option.bind_assoc]
     rfl)
  | exact zvl ..
  | exact z15q ..
  | (rw [z15q]; done)
  | exact z1l3 ..
  | (rw [zvl]; done)
  | (rw [zq9,zn0]; done)
  | (rw [zq9]; done)
  | exact z124 ..
  | exact z1lq ..
  | exact zq9 ..
  | exact zn0 ..
  | exact z14e ..
  | split
  | simp only [zy,Option.bind_assoc,oB,Option.bind_none]
structure Ask where
 tis:List TI
 f:PV
 args:List PV
 objs:List Obj
def callAsk (E:Env) (t:Nat) (f:PV) (args:List PV) (objs:List Obj):Option Ask :=
 bif plainFn E f then (bif allB plainPV args then some ⟨resTIs E t,f,args,objs⟩ else none) else
 match purify pfuel objs f with
 | some (f,objs1)=>match purifyL pfuel objs1 args with
  | some (args,objs2)=>some ⟨resTIs E t,f,args,bif allB (fun ti=>allB z1t ti.leaves) (resTIs E t) then objs else objs2⟩
  | none=>none
 | none=>none
theorem callOr_eq (E:Env) (C:Orc) (t:Nat) (f:PV) (args:List PV) (objs:List Obj) (k:PV→List Obj→Option R) :
  z1el E C t f args objs k=(callAsk E t f args objs).bind fun a=>(C a.tis a.f a.args).bind fun v=>k (zk3 a.tis v) a.objs:=by
 unfold z1el callAsk
 cases plainFn E f with
 | true =>
  simp only [cond_true]
  cases allB plainPV args <;> rfl
 | false =>
 simp only [cond_false]
 cases purify pfuel objs f with
 | none=>rfl
 | some p =>
  obtain ⟨f,o1⟩:=p
  simp only
  cases purifyL pfuel o1 args with
  | none=>rfl
  | some q=>rfl
inductive Out where
 | next (c:Conf)
 | done (v:PV)
 | ask (a:Ask) (k:PV→Conf)
def Out.go (C:Orc) (k:Conf→Option R) (kd:PV→Option R):Out→Option R
 | .next c=>k c
 | .done v=>kd v
 | .ask a f=>(C a.tis a.f a.args).bind fun v=>k (f v)
end
def giveD (c:Conf) (vs:List PV):Option Out :=
 match c.rest with
 | []=>bif c.late then none else match purify pfuel c.objs (oneOf vs) with | some (v,_)=>some (.done v) | none=>none
 | f::fs=>bif c.late then (match f.mode with
   | .pan _ true=>some (.next (AFr.conf { f with mode:=.ret } fs c.objs))
   | .pan _ false=>some (.next (AFr.conf f fs c.objs))
   | .ret=>some (.next (AFr.conf f fs c.objs))
   | .run=>none)
  else (zzh f fs c.objs (oneOf vs)).map .next
def retD (E:Env) (c:Conf):Option Out :=
 match c.defers with
 | []=>match E.P.funcs[c.fn]? with
  | some fn=>(resV E c.objs c.T fn.results.toList [] some).bind fun vs=>giveD c vs
  | none=>none
 | _::_=>some (.next { c with mode:=.ret })
def zy9 (E:Env) (c:Conf) (g:Nat) (as:List PV) (below:AFr) (late:Bool):Option Out :=
 match E.P.funcs[g]? with
 | some fn=>match fn.body with
  | some body=>some (.next { fn:=g,T:=as++repl .undef (fn.ntmps-as.length),todo:=[.code body],rest:=below::c.rest,objs:=c.objs,late:=late })
  | none=>none
 | none=>none
def zz1 (E:Env) (c:Conf):Option Out :=
 match c.defers with
 | (d,as)::ds=>match c.mode,d with
  | .pan _ true,_=>none
  | _,.func (.func g) a b=>zy9 E c g (a++as++b) { c.fr with defers:=ds } true
  | .ret,.mapr i=>(markC c i ds).map .next
  | _,_=>none
 | []=>match c.mode with
  | .ret=>retD E c
  | .pan v false=>match E.P.funcs[c.fn]?,c.rest with
   | some _,f::fs=>bif c.late then none else match f.mode,f.wait with | .run,none=>some (.next (AFr.conf { f with T:=z14h f,mode:=.pan v false } fs c.objs)) | _,_=>none
   | _,_=>none
  | _=>none
def askD (E:Env) (c:Conf) (ops:Array Oper) (is:List Nat) (t:List Item) (o:Oper) (f:PV) (args:List PV):Option Out :=
 (callAsk E o.type f args c.objs).bind fun a=>some (.ask a fun v=>{ c with T:=putT c.T o.dst (zk3 a.tis v),todo:=.inRegion ops is::t,objs:=a.objs })
def zee (E:Env) (c:Conf) (ops:Array Oper) (i:Nat) (is:List Nat) (t:List Item) (o:Oper) (fv:PV) (args:List PV):Option Out :=
 match fv with
 | .func (.func g) a b=>bif mem2 c.fn g E.inl then zy9 E c g (a++args++b) { c.fr with todo:=.inRegion ops (i::is)::t } false
  else askD E c ops is t o fv args
 | .func (.yield _) [.mapr j] []=>match yieldC E c { c.fr with todo:=.inRegion ops (i::is)::t } j args with | some c'=>some (.next c') | none=>askD E c ops is t o fv args
 | _=>askD E c ops is t o fv args
def z14j (E:Env) (c:Conf) (ops:Array Oper) (i:Nat) (is:List Nat) (t:List Item) (o:Oper) (recv:PV) (name:String) (args:List PV):Option Out :=
 match recv with
 | .iface u v=>match findM u name E.mt with
  | some g=>bif mem2 c.fn g E.inl then zy9 E c g (v::args) { c.fr with todo:=.inRegion ops (i::is)::t } false
   else askD E c ops is t o (.func (.func g) [] []) (v::args)
  | none=>none
 | _=>none
def recoverD (c:Conf) (ops:Array Oper) (is:List Nat) (t:List Item) (o:Oper):Option Out :=
 match c.late,c.rest,c.round with
 | true,f::fs,none=>match f.mode with
  | .pan v false=>some (.next { c with T:=putT c.T o.dst v,todo:=.inRegion ops is::t,rest:={ f with mode:=.pan v true }::fs })
  | .ret=>some (.next { c with T:=putT c.T o.dst .nili,todo:=.inRegion ops is::t })
  | _=>none
 | _,_,_=>none
def specD (E:Env) (T:List PV) (objs:List Obj) (s:Spec):Option (PV×List Obj):=specK E T objs s fun v objs=>some (v,objs)
def operD (E:Env) (c:Conf) (ops:Array Oper) (i:Nat) (is:List Nat) (t:List Item) (o:Oper):Option Out :=
 match z2a E o.op with
 | some s=>(specD E c.T c.objs s).bind fun p=>some (.next { c with T:=putT c.T o.dst p.1,todo:=.inRegion ops is::t,objs:=p.2 })
 | none =>
 match o.op with
 | .call { callee:=.value f,args,.. }=>zee E c ops i is t o (ev c.T f) (args.toList.map (ev c.T))
 | .call { callee:=.invoke r name,args,.. }=>z14j E c ops i is t o (ev c.T r) name (args.toList.map (ev c.T))
 | .call { callee:=.builtin .recover,.. }=>recoverD c ops is t o
 | .panic x=>match ev c.T x with | .iface u v=>some (.next { c with todo:=.inRegion ops (i::is)::t,mode:=.pan (.iface u v) false }) | _=>none
 | .defer { callee:=.value f,args,.. }=>match c.round,ev c.T f with
  | none,.func (.func g) a b=>some (.next { c with T:=putT c.T o.dst (.tuple []),todo:=.inRegion ops is::t,defers:=(.func (.func g) a b,args.toList.map (ev c.T))::c.defers })
  | _,_=>none
 | _=>(opD E c.T c.objs o).bind fun p=>some (.next { c with T:=putT c.T o.dst p.1,todo:=.inRegion ops is::t,objs:=p.2 })
def skipD (c:Conf) (ops:Array Oper) (is:List Nat) (t:List Item) (dst:Option Nat):Option Out :=
 some (.next { c with T:=putT c.T dst (.tuple []),todo:=.inRegion ops is::t })
def zls (E:Env) (c:Conf) (ops:Array Oper) (i:Nat) (is:List Nat) (t:List Item) (o:Oper):Option Out :=
 match o.guard with
 | none=>operD E c ops i is t o
 | some (j,want) =>
  match (ops[j]?).bind (·.dst) with
  | none=>skipD c ops is t o.dst
  | some d=>match nthD .undef c.T d with
   | .bool true=>bif want then operD E c ops i is t o else skipD c ops is t o.dst
   | .bool false=>bif want then skipD c ops is t o.dst else operD E c ops i is t o
   | .tuple _=>skipD c ops is t o.dst
   | _=>none
def zgt (E:Env) (c:Conf):Option Out :=
 match c.todo with
 | []=>(match c.round with | none=>retD E c | some _=>(zp3 c none).map .next)
 | .code .ret::_=>(match c.round with | none=>retD E c | some _=>(zp3 c (some .ret)).map .next)
 | .beginRound::t=>(z1ju c t).map .next
 | .code (.rangeFunc x ps as bd)::t=>match c.round,ev c.T x with
  | none,.func (.func g) a b=>bif mem2 c.fn g E.inl then zy9 E (loopC c ps as bd t).1 g (a++[(loopC c ps as bd t).2.2]++b) (loopC c ps as bd t).2.1 false else none
  | _,_=>none
 | .code .skip::t | .code (.label _)::t | .inBlock _::t | .inScope _::t=>some (.next { c with todo:=t })
 | .code (.seq a b)::t=>some (.next { c with todo:=.code a::.code b::t })
 | .code (.cond x a b)::t=>match ev c.T x with
  | .bool true=>some (.next { c with todo:=.code a::t })
  | .bool false=>some (.next { c with todo:=.code b::t })
  | _=>none
 | .code (.block id a)::t=>some (.next { c with todo:=.code a::.inBlock id::t })
 | .code (.loop a)::t=>some (.next { c with todo:=.code a::.inLoop a::t })
 | .inLoop a::t=>some (.next { c with todo:=.code a::.inLoop a::t })
 | .code (.scope a)::t=>some (.next { c with todo:=.code a::.inScope a::t })
 | .code (.exit id)::t=>match exitTo id t with | some t=>some (.next { c with todo:=t }) | none=>(zp3 { c with todo:=t } (some (.exit id))).map .next
 | .code (.region _ ops false)::t=>some (.next { c with todo:=.inRegion ops (List.range ops.size)::t })
 | .code (.region _ ops true)::t=>bif drawOk E (resvL ops.toList c.T c.objs).1 c.fn ops then some (.next { c with T:=(resvL ops.toList c.T c.objs).1,objs:=(resvL ops.toList c.T c.objs).2,todo:=.inRegion ops (List.range ops.size)::t }) else match loudAt E c.fn ops with | some _=>some (.next { c with todo:=.inRegion ops (List.range ops.size)::t }) | none=>none
 | .inRegion _ []::t=>some (.next { c with todo:=t })
 | .inRegion ops (i::is)::t=>match ops[i]? with
  | some o=>zls E c ops i is t o
  | none=>some (.next { c with todo:=.inRegion ops is::t })
 | _=>none
def stepD (E:Env) (c:Conf):Option Out :=
 match c.mode with
 | .run=>zgt E c
 | _=>zz1 E c
def sharp (c:Conf):Conf :=
 match slotOf c with
 | some s=>match nthD .undef c.T s with
  | .bool b=>{ c with T:=setN c.T s (.bool b) }
  | _=>c
 | none=>c
section
variable {R:Type}
theorem z13y (E:Env) (objs:List Obj) (T:List PV) (k:List PV→Option R):∀ (l:List ResultVar) (acc:List PV),resV E objs T l acc k=(resV E objs T l acc some).bind k
 | [],acc=>rfl
 | .tmp t::r,acc=>by simp only [resV]; exact z13y E objs T k r _
 | .cell a t::r,acc=>by
  simp only [resV]
  rw [z3y,z3y (k:=fun v=>resV E objs T r (v::acc) some),Option.bind_assoc]
  congr 1; funext v; exact z13y E objs T k r _
theorem zk8 (C:Orc) (x:Option Conf) (k:Conf→Option R) (kd:PV→Option R):x.bind k=(x.map Out.next).bind (Out.go C k kd):=by cases x <;> rfl
theorem giveK_eq (C:Orc) (c:Conf) (vs:List PV) (k:Conf→Option R) (kd:PV→Option R):giveK c vs k kd=(giveD c vs).bind (Out.go C k kd):=by
 unfold giveK giveD
 cases c.rest with
 | nil =>
  simp only
  cases c.late with
  | true=>rfl
  | false =>
   simp only [cond_false]
   cases purify pfuel c.objs (oneOf vs) with
   | none=>rfl
   | some p=>rfl
 | cons f fs =>
  simp only
  cases c.late with
  | true =>
   simp only [cond_true]
   cases f.mode with
   | pan v r=>cases r <;> rfl
   | _=>rfl
  | false =>
   simp only [cond_false]
   exact zk8 C _ k kd
theorem z1g1 (E:Env) (C:Orc) (c:Conf) (k:Conf→Option R) (kd:PV→Option R):retK E c k kd=(retD E c).bind (Out.go C k kd):=by
 unfold retK retD
 cases c.defers with
 | cons d ds=>rfl
 | nil =>
  simp only
  cases E.P.funcs[c.fn]? with
  | none=>rfl
  | some fn =>
   simp only
   rw [z13y,Option.bind_assoc]
   congr 1; funext vs
   exact giveK_eq C c vs k kd
theorem zy8 (E:Env) (C:Orc) (c:Conf) (g:Nat) (as:List PV) (below:AFr) (late:Bool) (k:Conf→Option R) (kd:PV→Option R) :
  z157 E c g as below late k=(zy9 E c g as below late).bind (Out.go C k kd):=by
 unfold z157 zy9
 cases E.P.funcs[g]? with
 | none=>rfl
 | some fn =>
  simp only
  cases fn.body with
  | none=>rfl
  | some body=>rfl
theorem z1k4 (E:Env) (C:Orc) (c:Conf) (k:Conf→Option R) (kd:PV→Option R):z1f8 E c k kd=(zz1 E c).bind (Out.go C k kd):=by
 unfold z1f8 zz1
 cases c.defers with
 | cons d ds =>
  obtain ⟨d,as⟩:=d
  simp only
  have enter:∀ g a b,z157 E c g (a++as++b) { c.fr with defers:=ds } true k=(zy9 E c g (a++as++b) { c.fr with defers:=ds } true).bind (Out.go C k kd):=fun g a b=>zy8 E C c g _ _ _ k kd
  cases c.mode with
  | pan v r =>
   cases r with
   | true=>rfl
   | false =>
    cases d with
    | func fn a b=>cases fn with
     | func g=>exact enter g a b
     | _=>rfl
    | _=>rfl
  | ret =>
   cases d with
   | func fn a b=>cases fn with
    | func g=>exact enter g a b
    | _=>rfl
   | mapr i=>exact zk8 C _ k kd
   | _=>rfl
  | run =>
   cases d with
   | func fn a b=>cases fn with
    | func g=>exact enter g a b
    | _=>rfl
   | _=>rfl
 | nil =>
  simp only
  cases c.mode with
  | run=>rfl
  | ret=>exact z1g1 E C c k kd
  | pan v r =>
   cases r with
   | true=>rfl
   | false =>
    simp only
    cases E.P.funcs[c.fn]? with
    | none=>rfl
    | some fn =>
    cases c.rest with
    | nil=>rfl
    | cons f fs =>
     simp only
     cases c.late with
     | true=>rfl
     | false =>
      simp only [cond_false]
      cases f.mode <;> cases f.wait <;> rfl
theorem zw5 (E:Env) (C:Orc) (c:Conf) (ops:Array Oper) (is:List Nat) (t:List Item) (o:Oper) (f:PV) (args:List PV) (k:Conf→Option R) (kd:PV→Option R) :
  (z1el E C o.type f args c.objs fun v objs=>k { c with T:=putT c.T o.dst v,todo:=.inRegion ops is::t,objs })=(askD E c ops is t o f args).bind (Out.go C k kd):=by
 rw [callOr_eq]; unfold askD
 rw [Option.bind_assoc]; rfl
theorem z1gw (E:Env) (C:Orc) (c:Conf) (ops:Array Oper) (i:Nat) (is:List Nat) (t:List Item) (o:Oper) (fv:PV) (args:List PV) (k:Conf→Option R) (kd:PV→Option R) :
  zss E C c ops i is t o fv args k=(zee E c ops i is t o fv args).bind (Out.go C k kd):=by
 cases fv with
 | func fn a b =>
  cases fn with
  | func g =>
   simp only [zss,zee]
   rw [zy,← zw5,← zy8]
  | yield n =>
   unfold zss zee
   split
   ·rename_i h; cases h
   ·rename_i n' j h
    cases h
    simp only
    cases yieldC E c { c.fr with todo:=.inRegion ops (i::is)::t } j args with
    | some c'=>rfl
    | none=>exact zw5 E C c ops is t o _ args k kd
   ·rename_i h1 h2
    first
     | exact zw5 E C c ops is t o _ args k kd
     | (split
        ·rename_i h; cases h
        ·rename_i h; exact absurd h (h2 _ _)
        ·exact zw5 E C c ops is t o _ args k kd)
  | _=>(simp only [zss,zee]; exact zw5 E C c ops is t o _ args k kd)
 | _=>(simp only [zss,zee]; exact zw5 E C c ops is t o _ args k kd)
theorem z1lb (E:Env) (C:Orc) (c:Conf) (ops:Array Oper) (i:Nat) (is:List Nat) (t:List Item) (o:Oper) (r:PV) (name:String) (args:List PV) (k:Conf→Option R) (kd:PV→Option R) :
  z1gg E C c ops i is t o r name args k=(z14j E c ops i is t o r name args).bind (Out.go C k kd):=by
 cases r with
 | iface u v =>
  simp only [z1gg,z14j]
  cases findM u name E.mt with
  | none=>rfl
  | some g =>
   simp only
   rw [zy,← zw5,← zy8]
 | _=>rfl
theorem z1g3 (C:Orc) (c:Conf) (ops:Array Oper) (is:List Nat) (t:List Item) (o:Oper) (k:Conf→Option R) (kd:PV→Option R) :
  z1a3 c ops is t o k=(recoverD c ops is t o).bind (Out.go C k kd):=by
 unfold z1a3 recoverD
 cases c.late with
 | false=>rfl
 | true =>
  cases c.rest with
  | nil=>rfl
  | cons f fs =>
   cases c.round with
   | some q=>rfl
   | none =>
   simp only
   cases f.mode with
   | pan v r=>cases r <;> rfl
   | _=>rfl
theorem z1a7 (E:Env) (C:Orc) (c:Conf) (ops:Array Oper) (is:List Nat) (t:List Item) (o:Oper) (k:Conf→Option R) (kd:PV→Option R) :
  (opK E c.T c.objs o fun v objs=>k { c with T:=putT c.T o.dst v,todo:=.inRegion ops is::t,objs }) =
   ((opD E c.T c.objs o).bind fun p=>some (Out.next { c with T:=putT c.T o.dst p.1,todo:=.inRegion ops is::t,objs:=p.2 })).bind (Out.go C k kd):=by
 rw [opK_bind,Option.bind_assoc]; rfl
theorem z1km (E:Env) (T:List PV) (objs:List Obj) (s:Spec) (k:PV→List Obj→Option R):specK E T objs s k=(specD E T objs s).bind fun p=>k p.1 p.2:=by
 unfold specD specK
 cases s with
 | same x=>rfl
 | mnz e x=>simp only; split <;> first | rfl | (unfold z2o; rw [zy]; rfl)
 | sdata x=>simp only; split <;> first | rfl | (split <;> first | rfl | (rw [zy]; rfl))
 | ustr u p n =>
  simp only
  split
  ·unfold z2o; rw [zy]; rfl
  ·split
   ·unfold z2o; rw [zy,zy,Option.bind_assoc]; rfl
   ·rfl
  ·rfl
 | peq neg t x y=>simp only; split <;> first | rfl | (split <;> first | rfl | (rw [zy]; rfl))
theorem z1i9 (E:Env) (C:Orc) (c:Conf) (ops:Array Oper) (i:Nat) (is:List Nat) (t:List Item) (o:Oper) (k:Conf→Option R) (kd:PV→Option R) :
  operK E C c ops i is t o k=(operD E c ops i is t o).bind (Out.go C k kd):=by
 unfold operK operD
 cases hs:z2a E o.op with
 | some s=>simp only; rw [z1km,Option.bind_assoc]; rfl
 | none =>
 simp only
 clear hs
 generalize o.op=op
 cases op with
 | call cl =>
  obtain ⟨callee,args,ats⟩:=cl
  cases callee with
  | value f=>exact z1gw E C c ops i is t o _ _ k kd
  | invoke r name=>exact z1lb E C c ops i is t o _ _ _ k kd
  | builtin b =>
   cases b with
   | recover=>exact z1g3 C c ops is t o k kd
   | _=>exact z1a7 E C c ops is t o k kd
 | panic x =>
  simp only
  generalize ev c.T x=v
  cases v <;> rfl
 | defer cl =>
  obtain ⟨callee,args,ats⟩:=cl
  cases callee with
  | value f =>
   simp only
   generalize ev c.T f=v
   cases c.round with
   | some q=>rfl
   | none =>
   cases v with
   | func fn a b=>cases fn <;> rfl
   | _=>rfl
  | _=>exact z1a7 E C c ops is t o k kd
 | _=>exact z1a7 E C c ops is t o k kd
theorem z1gk (E:Env) (C:Orc) (c:Conf) (ops:Array Oper) (i:Nat) (is:List Nat) (t:List Item) (o:Oper) (k:Conf→Option R) (kd:PV→Option R) :
  z1ar E C c ops i is t o k=(zls E c ops i is t o).bind (Out.go C k kd):=by
 unfold z1ar zls
 cases o.guard with
 | none=>exact z1i9 E C c ops i is t o k kd
 | some jw =>
  obtain ⟨j,want⟩:=jw
  simp only
  cases (ops[j]?).bind (·.dst) with
  | none=>rfl
  | some d =>
   simp only
   generalize nthD .undef c.T d=v
   cases v with
   | bool b=>cases b <;> cases want <;> first | exact z1i9 E C c ops i is t o k kd | rfl
   | _=>rfl
theorem z1fm (E:Env) (C:Orc) (c:Conf) (k:Conf→Option R) (kd:PV→Option R):z19f E C c k kd=(zgt E c).bind (Out.go C k kd):=by
 unfold z19f zgt
 generalize c.todo=todo
 match todo with
 | []=>simp only; cases c.round with | none=>exact z1g1 E C c k kd | some q=>exact zk8 C _ k kd
 | .inBlock _::t=>rfl
 | .inScope _::t=>rfl
 | .inLoop a::t=>rfl
 | .inRangeFunc _::_=>rfl
 | .endRangeFunc _::_=>rfl
 | .beginRound::_=>exact zk8 C _ k kd
 | .call ..::_=>rfl
 | .extern ..::_=>rfl
 | .inRegion ops []::t=>rfl
 | .inRegion ops (i::is)::t =>
  simp only
  cases ops[i]? with
  | none=>rfl
  | some o=>exact z1gk E C c ops i is t o k kd
 | .code cd::t =>
  cases cd with
  | ret=>simp only; cases c.round with | none=>exact z1g1 E C c k kd | some q=>exact zk8 C _ k kd
  | rangeFunc x ps as bd =>
   simp only
   cases c.round with
   | some q=>rfl
   | none =>
    generalize ev c.T x=v
    cases v with
    | func fn a b=>cases fn with
     | func g =>
      simp only
      cases mem2 c.fn g E.inl with
      | false=>rfl
      | true=>exact zy8 E C _ g _ _ _ k kd
     | _=>rfl
    | _=>rfl
  | cond x a b =>
   simp only
   generalize ev c.T x=v
   cases v with
   | bool b=>cases b <;> rfl
   | _=>rfl
  | exit id =>
   simp only [exitK]
   cases exitTo id t with
   | some _=>rfl
   | none=>exact zk8 C _ k kd
  | region id ops d =>
   cases d with
   | false=>rfl
   | true =>
    simp only
    cases drawOk E (resvL ops.toList c.T c.objs).1 c.fn ops with
    | true=>rfl
    | false=>simp only [cond_false]; cases loudAt E c.fn ops <;> rfl
  | _=>rfl
theorem z19g (E:Env) (C:Orc) (c:Conf) (k:Conf→Option R) (kd:PV→Option R):stepK E C c k kd=(stepD E c).bind (Out.go C k kd):=by
 unfold stepK stepD
 have hu:=z1k4 E C c k kd
 have hr:=z1fm E C c k kd
 generalize c.mode=m at hu hr ⊢
 cases m with
 | run=>exact hr
 | _=>exact hu
theorem za0 (E:Env) (C:Orc) (c:Conf) (k:Conf→Option R) (kd:PV→Option R):stepP E C c k kd=(stepD E (sharp c)).bind (Out.go C k kd):=by
 unfold stepP sharp
 cases slotOf c with
 | none=>exact z19g E C c k kd
 | some s =>
  simp only
  generalize nthD .undef c.T s=v
  cases v with
  | bool b=>cases b <;> exact z19g E C _ k kd
  | _=>exact z19g E C c k kd
end
end Dv

namespace Dv
open Go
theorem z1iw {α:Type} {g:Nat→Option α} (mono:∀ n r,g n=some r→g (n+1)=some r) {n:Nat} {r:α} (h:g n=some r):lim g=some r:=by
 have up:∀ n m r,n≤m→g n=some r→g m=some r:=by
  intro n m r hnm h
  induction hnm with
  | refl=>exact h
  | step _ ih=>exact mono _ _ ih
 have hex:∃ r n,g n=some r:=⟨r,n,h⟩
 unfold lim
 rw [dif_pos hex]
 obtain ⟨m,hm⟩:=hex.choose_spec
 have h1:=up n (max n m) r (Nat.le_max_left _ _) h
 have h2:=up m (max n m) _ (Nat.le_max_right _ _) hm
 rw [h1] at h2
 exact h2.symm
theorem z17q {α:Type} {g:Nat→Option α} {r:α} (h:lim g=some r):∃ n,g n=some r:=by
 unfold lim at h
 split at h
 ·rename_i hex
  obtain ⟨n,hn⟩:=hex.choose_spec
  cases h
  exact ⟨n,hn⟩
 ·cases h
theorem z1ix {α:Type} {g:Nat→Option α} {o:Option α} (mono:∀ n r,g n=some r→g (n+1)=some r) (h1:∀ n r,g n=some r→o=some r) (h2:∀ r,o=some r→∃ n,g n=some r):lim g=o:=by
 cases ho:o with
 | some r =>
  obtain ⟨n,hn⟩:=h2 r ho
  exact z1iw mono hn
 | none =>
  cases hl:lim g with
  | none=>rfl
  | some r =>
   obtain ⟨n,hn⟩:=z17q hl
   rw [h1 n r hn] at ho
   cases ho
def OLe (C C':Orc):Prop:=∀ tis f args r,C tis f args=some r→C' tis f args=some r
theorem go_mono {R:Type} {C C':Orc} (hC:OLe C C') {k k':Conf→Option R} (hk:∀ c r,k c=some r→k' c=some r) (kd:PV→Option R) (o:Out) (r:R)
  (h:o.go C k kd=some r):o.go C' k' kd=some r:=by
 cases o with
 | next c=>exact hk _ _ h
 | done v=>exact h
 | ask a f =>
  simp only [Out.go] at h ⊢
  cases hc:C a.tis a.f a.args with
  | none=>rw [hc] at h; cases h
  | some v=>rw [hc] at h; rw [hC _ _ _ _ hc]; exact hk _ _ h
theorem z17f {R:Type} (E:Env) {C C':Orc} (hC:OLe C C') {k k':Conf→Option R} (hk:∀ c r,k c=some r→k' c=some r) (kd:PV→Option R) (c:Conf) (r:R)
  (h:stepP E C c k kd=some r):stepP E C' c k' kd=some r:=by
 rw [za0] at h ⊢
 cases hs:stepD E (sharp c) with
 | none=>rw [hs] at h; cases h
 | some o=>rw [hs] at h; exact go_mono hC hk kd o r h
theorem zov (E:Env) {C C':Orc} (hC:OLe C C') (tis:List TI):∀ n m c r,n≤m→runN E C tis n c=some r→runN E C' tis m c=some r:=by
 intro n
 induction n with
 | zero=>intro m c r _ h; cases h
 | succ n ih =>
  intro m c r hm h
  obtain ⟨m,rfl⟩:∃ k,m=k+1:=⟨m-1,by omega⟩
  exact z17f E hC (fun c' r' h'=>ih m _ _ (by omega) h') _ c r h
theorem ze1 (E:Env):∀ n,OLe (callN E n) (callN E (n+1)):=by
 intro n
 induction n with
 | zero=>intro tis f args r h; cases h
 | succ n ih =>
  intro tis f args r h
  simp only [callN] at h ⊢
  split at h
  ·rename_i g a b
   cases he:zfs g E.ext with
   | some m=>rw [he] at h; exact h
   | none =>
    rw [he] at h
    simp only at h ⊢
    cases hs:zx3 E g (a++args++b) with
    | none=>rw [hs] at h; cases h
    | some c =>
     rw [hs] at h
     exact zov E ih tis n (n+1) c r (by omega) h
  ·cases h
theorem z15l (E:Env) {n m:Nat} (h:n≤m):OLe (callN E n) (callN E m):=by
 induction h with
 | refl=>exact fun _ _ _ _ h=>h
 | step _ ih=>exact fun tis f args r h=>ze1 E _ _ _ _ _ (ih _ _ _ _ h)
theorem callN_le (E:Env) (n:Nat):OLe (callN E n) (callW E):=fun tis f args r h=>z1iw (fun n r h=>ze1 E n tis f args r h) h
theorem z13u (E:Env) (tis:List TI) (c:Conf) (n:Nat) (r:PV) (h:runN E (callN E n) tis n c=some r):runN E (callN E (n+1)) tis (n+1) c=some r :=
 zov E (ze1 E n) tis n (n+1) c r (by omega) h
theorem runW_step (E:Env) (tis:List TI) (c:Conf):runW E tis c=stepP E (callW E) c (fun c'=>runW E tis (normC E c')) (fun v=>filt tis (some v)):=by
 refine z1ix (z13u E tis c) ?_ ?_
 ·intro n r h
  cases n with
  | zero=>cases h
  | succ n =>
   refine z17f E (callN_le E (n+1)) (fun c' r' h'=>?_) _ c r h
   exact z1iw (z13u E tis _) (n:=n+1) (zov E (fun _ _ _ _ h=>h) tis n (n+1) _ _ (by omega) h')
 ·intro r h
  rw [za0] at h
  cases hs:stepD E (sharp c) with
  | none=>rw [hs] at h; cases h
  | some o =>
   rw [hs] at h
   simp only [oB] at h
   cases o with
   | next c' =>
    obtain ⟨n,hn⟩:=z17q (show runW E tis (normC E c')=some r from h)
    refine ⟨n+1,?_⟩
    simp only [runN]
    rw [za0,hs]
    exact zov E (ze1 E n) tis n n _ _ (Nat.le_refl _) hn
   | done v =>
    refine ⟨1,?_⟩
    simp only [runN]
    rw [za0,hs]; exact h
   | ask a f =>
    simp only [Out.go] at h
    cases hc:callW E a.tis a.f a.args with
    | none=>rw [hc] at h; cases h
    | some v =>
     rw [hc] at h
     obtain ⟨n,hn⟩:=z17q (show runW E tis (normC E (f v))=some r from h)
     obtain ⟨m,hm⟩:=z17q hc
     refine ⟨max n m+1,?_⟩
     simp only [runN]
     rw [za0,hs]
     simp only [oB,Out.go]
     rw [z15l E (by omega:m≤max n m+1) _ _ _ _ hm]
     exact zov E (z15l E (by omega)) tis n (max n m) _ _ (Nat.le_max_left _ _) hn
theorem z1c2 (E:Env) (tis:List TI):∀ n c,z135 E (callW E) tis (runW E tis) n c=runW E tis c:=by
 intro n
 induction n with
 | zero=>intro c; rfl
 | succ n ih =>
  intro c
  rw [runW_step]
  simp only [z135]
  congr 1
  funext c'
  unfold normC
  cases atCut E c' with
  | some d=>rfl
  | none=>exact ih c'
theorem z7 (E:Env) (tis:List TI) (c:Conf):runW E tis c=z135 E (callW E) tis (runW E tis) 100000 c:=(z1c2 E tis 100000 c).symm
theorem z1bk {R:Type}:∀ (ts:List TI) (vs:List PV) (k:List PV→Option R),argsK ts vs k=(argsIn ts vs).bind k
 | [],[],k=>rfl
 | [],v::vs,k=>by
  simp only [argsK,argsIn,z1bk [] vs]
  cases okOther v with
  | false=>rfl
  | true=>simp only [cond_true]; cases argsIn [] vs <;> rfl
 | t::ts,v::vs,k=>by
  simp only [argsK,argsIn,z1bk ts vs]
  cases hasTy t v with
  | false=>rfl
  | true=>simp only [cond_true]; cases argsIn ts vs <;> rfl
 | _::_,[],_=>rfl
theorem z1f9 (E:Env) (C:Orc) (run:Conf→Option PV) (g:Nat) (args:List PV) :
  z18x E C run g args=match zx3 E g args with | some c=>z135 E C (funTI E g) run 100000 c | none=>none:=by
 unfold z18x zx3
 cases E.P.funcs[g]? with
 | none=>rfl
 | some fn =>
  simp only
  cases fn.body with
  | none=>rfl
  | some body =>
   simp only
   rw [z1bk]
   cases argsIn (z1dd E fn) args <;> rfl
theorem z6 (E:Env) (g:Nat) (args:List PV) (h:zfs g E.ext=none):callF E g args=z176 E g args:=by
 unfold callF z176 callW
 rw [z1f9]
 cases hs:zx3 E g args with
 | none =>
  simp only
  refine z1ix (fun n r h=>ze1 E n _ _ _ r h) ?_ (fun r h=>by cases h)
  intro n r hn
  cases n with
  | zero=>cases hn
  | succ n=>simp only [callN,h,List.nil_append,List.append_nil,hs] at hn; cases hn
 | some c =>
  simp only
  rw [show (z135 E (fun tis f args=>lim fun n=>callN E n tis f args) (funTI E g) (runW E (funTI E g)) 100000 c)=runW E (funTI E g) c from z1c2 E (funTI E g) 100000 c]
  refine z1ix (fun n r h=>ze1 E n _ _ _ r h) ?_ ?_
  ·intro n r hn
   cases n with
   | zero=>cases hn
   | succ n =>
    simp only [callN,h,List.nil_append,List.append_nil,hs] at hn
    exact z1iw (z13u E _ c) hn
  ·intro r hr
   obtain ⟨n,hn⟩:=z17q hr
   exact ⟨n+1,by simp only [callN,h,List.nil_append,List.append_nil,hs]; exact hn⟩
end Dv

namespace Dv
open Go
def z89:List PV→Option PV
 | [.str s,.int .u8 c]=>some (.int .i64 (Lib.indexByte s (UInt8.ofNat c.toNat)))
 | _=>none
def extCount:List PV→Option PV
 | [.str s,.int .u8 c]=>some (.int .i64 ((Lib.countByte s (UInt8.ofNat c.toNat):Nat):Int))
 | _=>none
def zsl:List PV→Option PV
 | [.int .u64 x,.int .u64 y,.int .u64 c] =>
  bif leB 0 x&&leB 0 y&&leB 0 c&&leB c 1 then some (.tuple [.int .u64 ((x+y+c) % 18446744073709551616),.int .u64 ((x+y+c) / 18446744073709551616)]) else none
 | _=>none
theorem z1em (E:Env) (tis:List TI) (g:Nat) (args:List PV) {m:List PV→Option PV} (h:zfs g E.ext=some m):∀ n,callN E (n+1) tis (.func (.func g) [] []) args=filt tis (m args):=by
 intro n
 simp only [callN,h,List.nil_append,List.append_nil]
theorem z1ek (E:Env) (tis:List TI) (g:Nat) (args:List PV) {m:List PV→Option PV} (h:zfs g E.ext=some m):callW E tis (.func (.func g) [] []) args=filt tis (m args):=by
 unfold callW
 refine z1ix (fun n r h=>ze1 E n _ _ _ r h) ?_ ?_
 ·intro n r hn
  cases n with
  | zero=>cases hn
  | succ n=>rw [z1em E tis g args h] at hn; exact hn
 ·intro r hr
  exact ⟨1,by rw [z1em E tis g args h]; exact hr⟩
end Dv

namespace Dv
open Go Go.RowKit
theorem z4l {α:Type} (d:α):∀ (l:List α) (n:Nat),nthD d l n=l[n]?.getD d
 | [],_=>by simp [nthD]
 | a::l,0=>by simp [nthD]
 | a::l,n+1=>by simpa [nthD] using z4l d l n
theorem z2z {α:Type}:∀ (l:List α) (n:Nat) (b:α),setN l n b=l.set n b
 | [],_,_=>by simp [setN]
 | _::l,0,b=>by simp [setN]
 | a::l,n+1,b=>by simpa [setN] using z2z l n b
@[simp] theorem z1fv {α:Type} (l:List α) (n:Nat) (b:α):(setN l n b).length=l.length:=by rw [z2z,List.length_set]
theorem z8 {α:Type} (d:α) (l:List α) (n:Nat) (b:α) (h:n<l.length):nthD d (setN l n b) n=b:=by
 rw [z4l,z2z,List.getElem?_set_self h]; rfl
theorem zd {α:Type} (d:α) (l:List α) (n m:Nat) (b:α) (h:n≠m):nthD d (setN l n b) m=nthD d l m:=by
 rw [z4l,z4l,z2z,List.getElem?_set_ne h]
theorem zo {α:Type} (d:α) (l m:List α) (n:Nat) (h:n<l.length):nthD d (l++m) n=nthD d l n:=by
 rw [z4l,z4l,List.getElem?_append_left h]
theorem z11 {α:Type} (d:α) (l:List α) (b:α):nthD d (l++[b]) l.length=b:=by
 rw [z4l]; simp
theorem zhi {α:Type} (d:α) (l:List α) (n:Nat) (h:l.length≤n):nthD d l n=d:=by
 rw [z4l,List.getElem?_eq_none h]; rfl
theorem zk {α:Type} {p:α→Bool}:∀ {l:List α},allB p l=true→∀ a∈l,p a=true
 | [],_,_,h=>by cases h
 | a::l,h,b,hb=>by
  simp only [allB,Bool.and_eq_true] at h
  cases hb with
  | head=>exact h.1
  | tail _ hm=>exact zk h.2 b hm
theorem zw7 {α:Type} {p:α→Bool}:∀ {l:List α},(∀ a∈l,p a=true)→allB p l=true
 | [],_=>rfl
 | a::l,h=>by simp only [allB,Bool.and_eq_true]; exact ⟨h a (by simp),zw7 (fun b hb=>h b (by simp [hb]))⟩
theorem zc {α:Type} {b:Bool} {x:Option α} {y:α} (h:z2o b x=some y):b=true∧x=some y:=by
 cases b with
 | false=>simp [z2o] at h
 | true=>exact ⟨rfl,h⟩
theorem zp5 {fz n:Nat} (h:fzOk fz n=true):fz≤n:=by
 cases fz with
 | zero=>exact Nat.zero_le _
 | succ f=>exact of_decide_eq_true h
inductive VRf (w:World) (W:Nat→Nat→Prop):PV→Value→Prop
 | undef (v:Value):VRf w W .undef v
 | resv (i:Nat) (v:Value):VRf w W (.resv i) v
 | bool (b:Bool):VRf w W (.bool b) (.bool b)
 | int (k:IntKind) (n:Int):VRf w W (.int k n) (.int k n)
 | str (s:List UInt8):VRf w W (.str s) (.string ⟨s.toArray⟩)
 | nilp:VRf w W .nilp (.pointer none)
 | nilm:VRf w W .nilm (.map none)
 | nilfn:VRf w W .nilfn .nilFunc
 | nili:VRf w W .nili .nilIface
 | slemp (s:Nat) (a:Option Addr) (cap:Nat):VRf w W (.sl s []) (.slice a 0 cap)
 | sl (s:Nat) (l:List PV) (b o cap:Nat) (f:Nat→Nat→Value) (hc:l.length≤cap)
   (hs:∀ (k:Nat) (p:PV),l[k]?=some p→p.cellsL.length=s∧allB PV.scalar p.cellsL=true)
   (hcell:∀ (k:Nat) (p:PV),l[k]?=some p→∀ (j:Nat) (q:PV),p.cellsL[j]?=some q→w.cell? ⟨b,o+k*s+j,none⟩=some (f k j)∧¬ W b (o+k*s+j))
   (hr:∀ (k:Nat) (p:PV),l[k]?=some p→∀ (j:Nat) (q:PV),p.cellsL[j]?=some q→VRf w W q (f k j)):VRf w W (.sl s l) (.slice (some ⟨b,o,none⟩) l.length cap)
 | ref (cells:List PV) (off b o:Nat) (f:Nat→Value)
   (hcell:∀ (j:Nat) (q:PV),cells[j]?=some q→w.cell? ⟨b,o+j,none⟩=some (f j)∧¬ W b (o+j))
   (hr:∀ (j:Nat) (q:PV),cells[j]?=some q→VRf w W q (f j)):VRf w W (.ref cells off) (.pointer (some ⟨b,o+off,none⟩))
 | mp (ks vs:List PV) (b:Nat) (es:List MapEntry) (clock:Nat) (hh:w.heap[b]?=some (.map es.toArray clock)) (hw:¬ W b 0) (hk:ks.length=es.length) (hv:vs.length=es.length)
   (hx:∀ (j:Nat) (p:PV) (e:MapEntry),ks[j]?=some p→es[j]?=some e→VRf w W p e.key) (hy:∀ (j:Nat) (p:PV) (e:MapEntry),vs[j]?=some p→es[j]?=some e→VRf w W p e.val) :
   VRf w W (.mp ks vs) (.map (some b))
 | opq0 (p:PV) (v:Value) (hk:okOther p=true) (h:VRf w W p v):VRf w W (.opq p 0) v
 | iface (t:Nat) (p:PV) (v:Value) (h:VRf w W p v):VRf w W (.iface t p) (.iface t v)
 | func (fn:Fn) (a b:List PV) (xs ys:Array Value) (ha:a.length=xs.size) (hb:b.length=ys.size)
   (hx:∀ (j:Nat) (p:PV),a[j]?=some p→VRf w W p (xs.getD j undef)) (hy:∀ (j:Nat) (p:PV),b[j]?=some p→VRf w W p (ys.getD j undef)) (hn:isYield fn=false):VRf w W (.func fn a b) (.func fn xs ys)
 | agg (l:List PV) (cs:Array Value) (hl:l.length=cs.size) (hx:∀ (j:Nat) (p:PV),l[j]?=some p→VRf w W p (cs.getD j undef)):VRf w W (.agg l) (.agg cs)
 | tuple (l:List PV) (cs:Array Value) (hl:l.length=cs.size) (hx:∀ (j:Nat) (p:PV),l[j]?=some p→VRf w W p (cs.getD j undef)):VRf w W (.tuple l) (.tuple cs)
structure Keep (w:World) (W:Nat→Nat→Prop) (w':World) (W':Nat→Nat→Prop):Prop where
 cell:∀ b o v,w.cell? ⟨b,o,none⟩=some v→¬ W b o→w'.cell? ⟨b,o,none⟩=some v∧¬ W' b o
 map:∀ (b:Nat) (es:Array MapEntry) (clock:Nat),w.heap[b]?=some (.map es clock)→¬ W b 0→w'.heap[b]?=some (.map es clock)∧¬ W' b 0
theorem VRf.mono {w w':World} {W W':Nat→Nat→Prop} (H:Keep w W w' W') {p:PV} {v:Value} (h:VRf w W p v):VRf w' W' p v:=by
 induction h with
 | undef v=>exact .undef v
 | resv i v=>exact .resv i v
 | bool b=>exact .bool b
 | int k n=>exact .int k n
 | str s=>exact .str s
 | nilp=>exact .nilp
 | nilm=>exact .nilm
 | nilfn=>exact .nilfn
 | nili=>exact .nili
 | slemp s a cap=>exact .slemp s a cap
 | sl s l b o cap f hc hs hcell hr ih=>exact .sl s l b o cap f hc hs (fun k p hp j q hq=>H.cell _ _ _ (hcell k p hp j q hq).1 (hcell k p hp j q hq).2) ih
 | ref cells off b o f hcell hr ih=>exact .ref cells off b o f (fun j q hq=>H.cell _ _ _ (hcell j q hq).1 (hcell j q hq).2) ih
 | mp ks vs b es clock hh hw hk hv hx hy ih1 ih2=>exact .mp ks vs b es clock (H.map _ _ _ hh hw).1 (H.map _ _ _ hh hw).2 hk hv ih1 ih2
 | opq0 p v hk h ih=>exact .opq0 p v hk ih
 | iface t p v h ih=>exact .iface t p v ih
 | func fn a b xs ys ha hb hx hy hn ih1 ih2=>exact .func fn a b xs ys ha hb ih1 ih2 hn
 | agg l cs hl hx ih=>exact .agg l cs hl ih
 | tuple l cs hl hx ih=>exact .tuple l cs hl ih
def Room (w:World) (b n:Nat):Prop:=∃ cs e fr,w.heap[b]?=some (.cells cs e fr)∧n≤cs.size
abbrev zh:=List (Option (Nat×Nat))
inductive VR (w:World) (W:Nat→Nat→Prop) (bl:zh) (objs:List Obj):PV→Value→Prop
 | fz (p:PV) (v:Value) (h:VRf w W p v):VR w W bl objs p v
 | opq0 (p:PV) (v:Value) (hk:okOther p=true) (h:VRf w W p v):VR w W bl objs (.opq p 0) v
 | opq (p:PV) (b o off:Nat) (hk:okOther p=true) (h:VRf w W p (.pointer (some ⟨b,o,none⟩))):VR w W bl objs (.opq p off) (.pointer (some ⟨b,o+off,none⟩))
 | sl0:VR w W bl objs .sl0 (.slice none 0 0)
 | se (a:Option Addr):VR w W bl objs .se (.slice a 0 0)
 | dead (p:PV) (v:Value) (i:Nat) (hv:v.oneCell'=true) (hp:refOf p=some i) (hi:i<objs.length) (hd:nthD .dead objs i=.dead) (hq:isPtrP p=true→∃ a,v=.pointer (some a)):VR w W bl objs p v
 | ptr (i off b o:Nat) (hi:i<objs.length) (hb:bl[i]?=some (some (b,o))):VR w W bl objs (.ptr i off) (.pointer (some ⟨b,o+off,none⟩))
 | rptr {e:Nat} (i k off b o s fz:Nat) (l:List PV) (cap:Option Nat) (hi:i<objs.length) (ho:nthD .dead objs i=.row e s l fz cap) (hb:bl[i]?=some (some (b,o))) :
   VR w W bl objs (.rptr i k off) (.pointer (some ⟨b,o+k*s+off,none⟩))
 | lall {e:Nat} (i b o s fz c:Nat) (l:List PV) (cap:Option Nat) (hi:i<objs.length) (ho:nthD .dead objs i=.row e s l fz cap) (hb:bl[i]?=some (some (b,o)))
   (hc:l.length≤c) (hm:∀ m,cap=some m→c=m) (hr:Room w b (o+c*s)):VR w W bl objs (.lall i) (.slice (some ⟨b,o,none⟩) l.length c)
 | lallE {e:Nat} (i s fz:Nat) (a:Option Addr) (hi:i<objs.length) (ho:nthD .dead objs i=.row e s [] fz none) (hb:bl[i]?=some none):VR w W bl objs (.lall i) (.slice a 0 0)
 | lsl {e:Nat} (i off len b o s fz c:Nat) (lim cap:Option Nat) (l:List PV) (hi:i<objs.length) (ho:nthD .dead objs i=.row e s l fz cap) (hb:bl[i]?=some (some (b,o)))
   (hl:off+len≤l.length) (hc:len≤c) (hm:∀ m,lim=some m→c=m) (hm':lim=none→∀ m,cap=some m→c+off=m) (hx:lim=none→l.length≤off+c) (hr:Room w b (o+(off+c)*s)) :
   VR w W bl objs (.lsl i off len lim) (.slice (some ⟨b,o+off*s,none⟩) len c)
 | lslE {e:Nat} (i off s fz:Nat) (lim cap:Option Nat) (l:List PV) (a:Option Addr) (hi:i<objs.length) (ho:nthD .dead objs i=.row e s l fz cap) (hl:off≤l.length)
   (hm:∀ m,lim=some m→m=0) (hm':lim=none→∀ m,cap=some m→off=m) (hx:lim=none→l.length≤off):VR w W bl objs (.lsl i off 0 lim) (.slice a 0 0)
 | raw {e:Nat} (i n b o fz c:Nat) (hi:i<objs.length) (ho:nthD .dead objs i=.row e 1 [] fz none) (hb:bl[i]?=some (some (b,o))) (hc:n≤c) (hr:Room w b (o+c)) :
   VR w W bl objs (.raw i n) (.slice (some ⟨b,o,none⟩) n c)
 | mapr (i b:Nat) (hi:i<objs.length) (hb:bl[i]?=some (some (b,0))):VR w W bl objs (.mapr i) (.map (some b))
 | iface (t:Nat) (p:PV) (v:Value) (h:VR w W bl objs p v):VR w W bl objs (.iface t p) (.iface t v)
 | yv (n b:Nat) (p:PV) (h:VR w W bl objs p (.map (some b))):VR w W bl objs (.func (.yield n) [p] []) (.func (.yield b) #[] #[])
 | func (fn:Fn) (a b:List PV) (xs ys:Array Value) (ha:a.length=xs.size) (hb:b.length=ys.size)
   (hx:∀ (j:Nat) (p:PV),a[j]?=some p→VR w W bl objs p (xs.getD j undef)) (hy:∀ (j:Nat) (p:PV),b[j]?=some p→VR w W bl objs p (ys.getD j undef)) (hn:isYield fn=false):VR w W bl objs (.func fn a b) (.func fn xs ys)
 | agg (l:List PV) (cs:Array Value) (hl:l.length=cs.size) (hx:∀ (j:Nat) (p:PV),l[j]?=some p→VR w W bl objs p (cs.getD j undef)):VR w W bl objs (.agg l) (.agg cs)
 | tuple (l:List PV) (cs:Array Value) (hl:l.length=cs.size) (hx:∀ (j:Nat) (p:PV),l[j]?=some p→VR w W bl objs p (cs.getD j undef)):VR w W bl objs (.tuple l) (.tuple cs)
def z4u:Obj→Obj→Prop
 | .dead,.dead=>True
 | .cells e l _,.cells e' l' _=>e=e'∧l.length=l'.length
 | .row e s l _ cap,.row e' s' l' _ cap'=>e=e'∧s=s'∧l.length=l'.length∧cap=cap'
 | .iter ..,.iter ..=>True
 | .loop ..,.loop ..=>True
 | .bmap ..,.bmap ..=>True
 | .bmap ..,.map _ _ im _=>im=true
 | .map _ _ im _,.bmap ..=>im=true
 | .dfr,.dfr=>True
 | .map _ _ im _,.map _ _ im' _=>im=im'
 | .hole,.hole=>True
 | _,_=>False
theorem z4u.refl (o:Obj):z4u o o:=by cases o <;> simp [z4u]
theorem z4u.trans {a b c:Obj} (h:z4u a b) (h':z4u b c):z4u a c:=by
 cases a <;> cases b <;> cases c <;> simp_all [z4u]
structure Ext (w:World) (W:Nat→Nat→Prop) (bl:zh) (objs:List Obj) (w':World) (W':Nat→Nat→Prop) (bl':zh) (objs':List Obj):Prop where
 keep:Keep w W w' W'
 len:objs.length≤objs'.length
 obj:∀ i,i<objs.length→(nthD .dead objs' i=.dead∨(nthD .dead objs i=.hole∧bl[i]?=some none))∨(bl'[i]?=bl[i]?∧z4u (nthD .dead objs i) (nthD .dead objs' i))
 room:∀ b n,Room w b n→Room w' b n
theorem Ext.refl (w:World) (W:Nat→Nat→Prop) (bl:zh) (objs:List Obj):Ext w W bl objs w W bl objs :=
 ⟨⟨fun _ _ _ h h'=>⟨h,h'⟩,fun _ _ _ h h'=>⟨h,h'⟩⟩,Nat.le_refl _,fun _ _=>.inr ⟨rfl,z4u.refl _⟩,fun _ _ h=>h⟩
theorem Ext.trans {w w' w'':World} {W W' W'':Nat→Nat→Prop} {bl bl' bl'':zh} {objs objs' objs'':List Obj}
  (h:Ext w W bl objs w' W' bl' objs') (h':Ext w' W' bl' objs' w'' W'' bl'' objs''):Ext w W bl objs w'' W'' bl'' objs'' where
 keep:=⟨fun b o v hv hw=>let ⟨h1,h2⟩:=h.keep.cell b o v hv hw; h'.keep.cell b o v h1 h2,fun b es c hv hw=>let ⟨h1,h2⟩:=h.keep.map b es c hv hw; h'.keep.map b es c h1 h2⟩
 len:=Nat.le_trans h.len h'.len
 obj:=fun i hi=>by
  rcases h'.obj i (Nat.lt_of_lt_of_le hi h.len) with (h2 | ⟨h2,h3⟩) | ⟨h2,h3⟩
  ·exact .inl (.inl h2)
  ·rcases h.obj i hi with (h1 | h1) | ⟨h1,h4⟩
   ·rw [h1] at h2; cases h2
   ·exact .inl (.inr h1)
   ·left; right
    refine ⟨?_,h1▸h3⟩
    rw [h2] at h4
    revert h4
    cases nthD .dead objs i <;> simp [z4u]
  ·rcases h.obj i hi with (h1 | h1) | ⟨h1,h4⟩
   ·left; left
    rw [h1] at h3
    revert h3
    cases nthD .dead objs'' i <;> simp [z4u]
   ·exact .inl (.inr h1)
   ·exact .inr ⟨h2.trans h1,h4.trans h3⟩
 room:=fun b n hr=>h'.room b n (h.room b n hr)
theorem Ext.obj' {w w':World} {W W':Nat→Nat→Prop} {bl bl':zh} {objs objs':List Obj} (H:Ext w W bl objs w' W' bl' objs') (i:Nat) (hi:i<objs.length) (hn:nthD .dead objs i≠.hole∨bl[i]?≠some none) :
  nthD .dead objs' i=.dead∨(bl'[i]?=bl[i]?∧z4u (nthD .dead objs i) (nthD .dead objs' i)):=by
 rcases H.obj i hi with (h | ⟨h,h'⟩) | h
 ·exact .inl h
 ·exact (hn.elim (fun x=>x h) (fun x=>x h')).elim
 ·exact .inr h
theorem VR.mono {w w':World} {W W':Nat→Nat→Prop} {bl bl':zh} {objs objs':List Obj} (H:Ext w W bl objs w' W' bl' objs') {p:PV} {v:Value}
  (h:VR w W bl objs p v):VR w' W' bl' objs' p v:=by
 induction h with
 | fz p v h=>exact .fz p v (h.mono H.keep)
 | opq0 p v hk h=>exact .opq0 p v hk (h.mono H.keep)
 | opq p b o off hk h=>exact .opq p b o off hk (h.mono H.keep)
 | sl0=>exact .sl0
 | se a=>exact .se a
 | dead p v i hv hp hi hd hq =>
  refine .dead p v i hv hp (Nat.lt_of_lt_of_le hi H.len) ?_ hq
  rcases H.obj' i hi (.inl (by rw [hd]; simp)) with h | ⟨_,h⟩
  ·exact h
  ·rw [hd] at h
   revert h
   cases nthD .dead objs' i <;> simp [z4u]
 | ptr i off b o hi hb =>
  rcases H.obj' i hi (.inr (by rw [hb]; simp)) with h | ⟨h,_⟩
  ·exact .dead _ _ i rfl rfl (Nat.lt_of_lt_of_le hi H.len) h (by first | (intro h; cases h; done) | exact fun _=>⟨_,rfl⟩)
  ·exact .ptr i off b o (Nat.lt_of_lt_of_le hi H.len) (h.trans hb)
 | rptr i k off b o s fz l cap hi ho hb =>
  rcases H.obj' i hi (.inl (by rw [ho]; simp)) with h | ⟨h,h2⟩
  ·exact .dead _ _ i rfl rfl (Nat.lt_of_lt_of_le hi H.len) h (by first | (intro h; cases h; done) | exact fun _=>⟨_,rfl⟩)
  ·rw [ho] at h2
   cases ho':nthD .dead objs' i with
   | row e' s' l' fz' cap' =>
    rw [ho'] at h2
    obtain ⟨rfl,rfl,_,rfl⟩:=h2
    exact .rptr i k off b o s fz' l' cap (Nat.lt_of_lt_of_le hi H.len) ho' (h.trans hb)
   | _=>rw [ho'] at h2; exact h2.elim
 | lall i b o s fz c l cap hi ho hb hc hm hr =>
  rcases H.obj' i hi (.inl (by rw [ho]; simp)) with h | ⟨h,h2⟩
  ·exact .dead _ _ i rfl rfl (Nat.lt_of_lt_of_le hi H.len) h (by first | (intro h; cases h; done) | exact fun _=>⟨_,rfl⟩)
  ·rw [ho] at h2
   cases ho':nthD .dead objs' i with
   | row e' s' l' fz' cap' =>
    rw [ho'] at h2
    obtain ⟨rfl,rfl,hlen,rfl⟩:=h2
    rw [hlen]
    exact .lall i b o s fz' c l' cap (Nat.lt_of_lt_of_le hi H.len) ho' (h.trans hb) (hlen▸hc) hm (H.room _ _ hr)
   | _=>rw [ho'] at h2; exact h2.elim
 | lallE i s fz a hi ho hb =>
  rcases H.obj' i hi (.inl (by rw [ho]; simp)) with h | ⟨h,h2⟩
  ·exact .dead _ _ i rfl rfl (Nat.lt_of_lt_of_le hi H.len) h (by first | (intro h; cases h; done) | exact fun _=>⟨_,rfl⟩)
  ·rw [ho] at h2
   cases ho':nthD .dead objs' i with
   | row e' s' l' fz' cap' =>
    rw [ho'] at h2
    obtain ⟨rfl,rfl,hlen,rfl⟩:=h2
    obtain rfl:l'=[]:=List.eq_nil_of_length_eq_zero hlen.symm
    exact .lallE i s fz' a (Nat.lt_of_lt_of_le hi H.len) ho' (h.trans hb)
   | _=>rw [ho'] at h2; exact h2.elim
 | lsl i off len b o s fz c lim cap l hi ho hb hl hc hm hm' hx hr =>
  rcases H.obj' i hi (.inl (by rw [ho]; simp)) with h | ⟨h,h2⟩
  ·exact .dead _ _ i rfl rfl (Nat.lt_of_lt_of_le hi H.len) h (by first | (intro h; cases h; done) | exact fun _=>⟨_,rfl⟩)
  ·rw [ho] at h2
   cases ho':nthD .dead objs' i with
   | row e' s' l' fz' cap' =>
    rw [ho'] at h2
    obtain ⟨rfl,rfl,hlen,rfl⟩:=h2
    exact .lsl i off len b o s fz' c lim cap l' (Nat.lt_of_lt_of_le hi H.len) ho' (h.trans hb) (hlen▸hl) hc hm hm' (hlen▸hx) (H.room _ _ hr)
   | _=>rw [ho'] at h2; exact h2.elim
 | lslE i off s fz lim cap l a hi ho hl hm hm' hx =>
  rcases H.obj' i hi (.inl (by rw [ho]; simp)) with h | ⟨h,h2⟩
  ·exact .dead _ _ i rfl rfl (Nat.lt_of_lt_of_le hi H.len) h (by first | (intro h; cases h; done) | exact fun _=>⟨_,rfl⟩)
  ·rw [ho] at h2
   cases ho':nthD .dead objs' i with
   | row e' s' l' fz' cap' =>
    rw [ho'] at h2
    obtain ⟨rfl,rfl,hlen,rfl⟩:=h2
    exact .lslE i off s fz' lim cap l' a (Nat.lt_of_lt_of_le hi H.len) ho' (hlen▸hl) hm hm' (hlen▸hx)
   | _=>rw [ho'] at h2; exact h2.elim
 | raw i n b o fz c hi ho hb hc hr =>
  rcases H.obj' i hi (.inl (by rw [ho]; simp)) with h | ⟨h,h2⟩
  ·exact .dead _ _ i rfl rfl (Nat.lt_of_lt_of_le hi H.len) h (by first | (intro h; cases h; done) | exact fun _=>⟨_,rfl⟩)
  ·rw [ho] at h2
   cases ho':nthD .dead objs' i with
   | row e' s' l' fz' cap' =>
    rw [ho'] at h2
    obtain ⟨rfl,rfl,hlen,rfl⟩:=h2
    obtain rfl:l'=[]:=List.eq_nil_of_length_eq_zero hlen.symm
    exact .raw i n b o fz' c (Nat.lt_of_lt_of_le hi H.len) ho' (h.trans hb) hc (H.room _ _ hr)
   | _=>rw [ho'] at h2; exact h2.elim
 | mapr i b hi hb =>
  rcases H.obj' i hi (.inr (by rw [hb]; simp)) with h | ⟨h,_⟩
  ·exact .dead _ _ i rfl rfl (Nat.lt_of_lt_of_le hi H.len) h (by first | (intro h; cases h; done) | exact fun _=>⟨_,rfl⟩)
  ·exact .mapr i b (Nat.lt_of_lt_of_le hi H.len) (h.trans hb)
 | iface t p v h ih=>exact .iface t p v ih
 | yv n b p h ih=>exact .yv n b p ih
 | func fn a b xs ys ha hb hx hy hn ih1 ih2=>exact .func fn a b xs ys ha hb ih1 ih2 hn
 | agg l cs hl hx ih=>exact .agg l cs hl ih
 | tuple l cs hl hx ih=>exact .tuple l cs hl ih
def mayW:Obj→Nat→Nat→Prop
 | .cells e _ false,_,_=>True
 | .row e s _ fz _,o0,x=>o0+fz*s≤x
 | .iter ..,_,_=>True
 | .map _ _ _ false,_,_=>True
 | .bmap ..,_,_=>True
 | _,_,_=>False
def WO (bl:zh) (objs:List Obj) (b o:Nat):Prop:=∃ i o0,bl[i]?=some (some (b,o0))∧mayW (nthD .dead objs i) o0 o
def WT (Wx:Nat→Nat→Prop) (bl:zh) (objs:List Obj) (b o:Nat):Prop:=Wx b o∨WO bl objs b o
def NoFz (n:Nat) (fr:Nat×Nat):Prop:=∀ o,o<n→¬ (fr.1≤o∧o<fr.2)
def z19s (p:PV):Prop:=p.scalar=true∨p=.undef
def Ords:Option PV→Option PV→List PV→List PV→Prop
 | none,none,ks,vs=>ks=[]∧vs=[]
 | some a,none,ks,vs=>ks=[.bool false]∧vs=[a]
 | none,some b,ks,vs=>ks=[.bool true]∧vs=[b]
 | some a,some b,ks,vs=>(ks=[.bool false,.bool true]∧vs=[a,b])∨(ks=[.bool true,.bool false]∧vs=[b,a])
def ORel (w:World) (W:Nat→Nat→Prop) (bl:zh) (objs:List Obj) (i:Nat):Prop :=
 match nthD .dead objs i with
 | .dead=>True
 | .hole=>bl[i]?=some none
 | .cells e l _=>∃ b cs fr,bl[i]?=some (some (b,0))∧w.heap[b]?=some (.cells cs e fr)∧cs.size=l.length∧NoFz cs.size fr ∧
   ∀ (j:Nat) (p:PV),l[j]?=some p→z19s p∧∃ v,cs[j]?=some v∧VR w W bl objs p v
 | .row e s l _ cap=>(bl[i]?=some none∧l=[]∧cap=none) ∨
   ∃ b o cs fr,bl[i]?=some (some (b,o))∧w.heap[b]?=some (.cells cs e fr)∧o+l.length*s≤cs.size∧NoFz cs.size fr ∧
   ∀ (k:Nat) (p:PV),l[k]?=some p→p.cellsL.length=s∧∀ (j:Nat) (q:PV),p.cellsL[j]?=some q→q.scalar=true∧∃ v,cs[o+k*s+j]?=some v∧VRf w W q v
 | .iter s pos=>∃ b,bl[i]?=some (some (b,0))∧w.heap[b]?=some (.stringIter ⟨s.toArray⟩ pos)
 | .bmap e0 e1=>∃ (ks vs:List PV) (b:Nat) (es:List MapEntry) (clock:Nat),Ords e0 e1 ks vs∧bl[i]?=some (some (b,0))∧w.heap[b]?=some (.map es.toArray clock)∧ks.length=es.length∧vs.length=es.length ∧
   (∀ (j:Nat) (p:PV) (e:MapEntry),ks[j]?=some p→es[j]?=some e→VRf w W p e.key)∧∀ (j:Nat) (p:PV) (e:MapEntry),vs[j]?=some p→es[j]?=some e→VR w W bl objs p e.val
 | .loop st pd fn T ps as bd=>∃ (b r:Nat) (tmps:Array Value),bl[i]?=some (some (b,0))∧w.heap[b]?=some (.loop { state:=st,pending:=pd,fn,tmps,params:=ps,assign:=as,body:=bd,defers:=r })∧T.length=tmps.size ∧
   ∀ (j:Nat) (p:PV),T[j]?=some p→VR w W bl objs p (tmps.getD j undef)
 | .dfr=>∃ b,bl[i]?=some (some (b,0))∧w.heap[b]?=some (.deferred (some []))
 | .map ks vs im _=>∃ (b:Nat) (es:List MapEntry) (clock:Nat),bl[i]?=some (some (b,0))∧w.heap[b]?=some (.map es.toArray clock)∧ks.length=es.length∧vs.length=es.length ∧
   (∀ (j:Nat) (p:PV) (e:MapEntry),ks[j]?=some p→es[j]?=some e→VRf w W p e.key) ∧
   ∀ (j:Nat) (p:PV) (e:MapEntry),vs[j]?=some p→es[j]?=some e→VR w W bl objs p e.val∧(im=false→VRf w W p e.val)
def alive (objs:List Obj) (i:Nat):Prop:=match nthD .dead objs i with | .dead=>False | _=>True
structure Sim (w0:World) (Wx:Nat→Nat→Prop) (w:World) (bl:zh) (objs:List Obj):Prop where
 below:Below w0.heap.size w0 w
 len:bl.length=objs.length
 own:∀ (i b o:Nat),bl[i]?=some (some (b,o))→w0.heap.size≤b∧b<w.heap.size
 inj:∀ (i j b o o':Nat),bl[i]?=some (some (b,o))→bl[j]?=some (some (b,o'))→alive objs i→alive objs j→i=j
 obj:∀ i,i<objs.length→ORel w (WT Wx bl objs) bl objs i
 wx:∀ b o,Wx b o→b<w0.heap.size
def TRel (w:World) (W:Nat→Nat→Prop) (bl:zh) (objs:List Obj) (T:List PV) (tmps:Array Value):Prop :=
 T.length=tmps.size∧∀ (j:Nat) (p:PV),T[j]?=some p→VR w W bl objs p (tmps.getD j undef)
theorem TRel.mono {w w':World} {W W':Nat→Nat→Prop} {bl bl':zh} {objs objs':List Obj} (H:Ext w W bl objs w' W' bl' objs') {T:List PV} {tmps:Array Value}
  (h:TRel w W bl objs T tmps):TRel w' W' bl' objs' T tmps:=⟨h.1,fun j p hp=>(h.2 j p hp).mono H⟩
theorem TRel.get {w:World} {W:Nat→Nat→Prop} {bl:zh} {objs:List Obj} {T:List PV} {tmps:Array Value} (h:TRel w W bl objs T tmps) (t:Nat) :
  VR w W bl objs (nthD .undef T t) (tmps.getD t undef):=by
 rw [z4l]
 cases ht:T[t]? with
 | some p=>exact h.2 t p ht
 | none=>exact .fz _ _ (.undef _)
theorem TRel.put {w:World} {W:Nat→Nat→Prop} {bl:zh} {objs:List Obj} {T:List PV} {tmps:Array Value} (h:TRel w W bl objs T tmps) (dst:Option Nat) {p:PV} {v:Value}
  (hv:VR w W bl objs p v):TRel w W bl objs (putT T dst p) (match dst with | some d=>tmps.setIfInBounds d v | none=>tmps):=by
 cases dst with
 | none=>exact h
 | some d =>
  refine ⟨by simp [putT,h.1],fun j q hq=>?_⟩
  simp only [putT,z2z,List.getElem?_set] at hq
  simp only [Array.getD_eq_getD_getElem?,Array.getElem?_setIfInBounds]
  split at hq
  ·rename_i hdj
   subst hdj
   split at hq
   ·rename_i hlt
    cases hq
    rw [if_pos rfl,if_pos (by rw [← h.1]; exact hlt)]
    exact hv
   ·cases hq
  ·rename_i hne
   rw [if_neg hne]
   have:=h.2 j q hq
   rwa [Array.getD_eq_getD_getElem?] at this
theorem z1g8 (w:World) (W:Nat→Nat→Prop) (bl:zh) (objs:List Obj) (v:Value):VR w W bl objs (z1g9 v) v:=by
 unfold z1g9
 split <;> first
  | exact .fz _ _ (.bool _)
  | exact .fz _ _ (.int _ _)
  | exact .fz _ _ .nilp
  | exact .sl0
  | exact .fz _ _ .nilm
  | exact .fz _ _ .nilfn
  | exact .fz _ _ .nili
  | exact .fz _ _ (.undef _)
  | (rename_i s; have h:=VRf.str (w:=w) (W:=W) s.data.toList; exact .fz _ _ h)
theorem ev_rel {w:World} {W:Nat→Nat→Prop} {bl:zh} {objs:List Obj} {T:List PV} {a:Act} (h:TRel w W bl objs T a.tmps) (x:Operand) :
  VR w W bl objs (ev T x) (a.eval x):=by
 cases x with
 | tmp t=>exact h.get t
 | const v=>exact z1g8 ..
 | global g=>exact .fz _ _ (.undef _)
 | func f=>exact .fz _ _ (.func _ [] [] #[] #[] rfl rfl (fun j p hp=>by simp at hp) (fun j p hp=>by simp at hp) rfl)
end Dv

namespace Dv
open Go Go.RowKit
def sameO:Obj→Obj→Prop
 | .dead,.dead=>True
 | .cells e l _,.cells e' l' _=>e=e'∧l=l'
 | .row e s l _ cap,.row e' s' l' _ cap'=>e=e'∧s=s'∧l=l'∧cap=cap'
 | .iter s p,.iter s' p'=>s=s'∧p=p'
 | .map ks vs im _,.map ks' vs' im' _=>ks=ks'∧vs=vs'∧im=im'
 | .loop st pd fn T ps as bd,.loop st' pd' fn' T' ps' as' bd'=>st=st'∧pd=pd'∧fn=fn'∧T=T'∧ps=ps'∧as=as'∧bd=bd'
 | .dfr,.dfr=>True
 | .bmap a b,.bmap a' b'=>a=a'∧b=b'
 | .hole,.hole=>True
 | _,_=>False
theorem sameO.refl (o:Obj):sameO o o:=by cases o <;> simp [sameO]
theorem sameO.alike {a b:Obj} (h:sameO a b):z4u a b:=by cases a <;> cases b <;> simp_all [sameO,z4u]
theorem ORel.keep {w w':World} {W W':Nat→Nat→Prop} {bl bl':zh} {objs objs':List Obj} {i:Nat} (H:Ext w W bl objs w' W' bl' objs')
  (ho:sameO (nthD .dead objs i) (nthD .dead objs' i)) (hb:bl'[i]?=bl[i]?) (hh:∀ (b o:Nat),bl[i]?=some (some (b,o))→w'.heap[b]?=w.heap[b]?)
  (h:ORel w W bl objs i):ORel w' W' bl' objs' i:=by
 unfold ORel at h ⊢
 cases h1:nthD .dead objs i with
 | dead =>
  rw [h1] at ho
  cases h2:nthD .dead objs' i <;> rw [h2] at ho <;> first | trivial | exact ho.elim
 | cells e l f =>
  rw [h1] at ho h
  cases h2:nthD .dead objs' i <;> rw [h2] at ho <;> first | exact ho.elim | skip
  obtain ⟨rfl,rfl⟩:=ho
  obtain ⟨b,cs,fr,hbl,hheap,hsz,hnf,hc⟩:=h
  exact ⟨b,cs,fr,hb.trans hbl,(hh b 0 hbl).trans hheap,hsz,hnf,fun j p hp=>let ⟨h1,v,h2,h3⟩:=hc j p hp; ⟨h1,v,h2,h3.mono H⟩⟩
 | row e s l fz cap =>
  rw [h1] at ho h
  cases h2:nthD .dead objs' i <;> rw [h2] at ho <;> first | exact ho.elim | skip
  obtain ⟨rfl,rfl,rfl,rfl⟩:=ho
  rcases h with ⟨hbl,hl,hcap⟩ | ⟨b,o,cs,fr,hbl,hheap,hsz,hnf,hc⟩
  ·exact .inl ⟨hb.trans hbl,hl,hcap⟩
  ·exact .inr ⟨b,o,cs,fr,hb.trans hbl,(hh b o hbl).trans hheap,hsz,hnf,fun k p hp =>
    let ⟨h1,h2⟩:=hc k p hp; ⟨h1,fun j q hq=>let ⟨h3,v,h4,h5⟩:=h2 j q hq; ⟨h3,v,h4,h5.mono H.keep⟩⟩⟩
 | iter s p =>
  rw [h1] at ho h
  cases h2:nthD .dead objs' i <;> rw [h2] at ho <;> first | exact ho.elim | skip
  obtain ⟨rfl,rfl⟩:=ho
  obtain ⟨b,hbl,hheap⟩:=h
  exact ⟨b,hb.trans hbl,(hh b 0 hbl).trans hheap⟩
 | hole =>
  rw [h1] at ho h
  cases h2:nthD .dead objs' i <;> rw [h2] at ho <;> first | exact ho.elim | skip
  exact hb.trans h
 | loop st pd fn T ps as bd =>
  rw [h1] at ho h
  cases h2:nthD .dead objs' i <;> rw [h2] at ho <;> first | exact ho.elim | skip
  obtain ⟨rfl,rfl,rfl,rfl,rfl,rfl,rfl⟩:=ho
  obtain ⟨b,r,tmps,hbl,hheap,hl,hx⟩:=h
  exact ⟨b,r,tmps,hb.trans hbl,(hh b 0 hbl).trans hheap,hl,fun j p hp=>(hx j p hp).mono H⟩
 | bmap e0 e1 =>
  rw [h1] at ho h
  cases h2:nthD .dead objs' i <;> rw [h2] at ho <;> first | exact ho.elim | skip
  obtain ⟨rfl,rfl⟩:=ho
  obtain ⟨ks,vs,b,es,clock,h0,hbl,hheap,hk,hv,hx,hy⟩:=h
  exact ⟨ks,vs,b,es,clock,h0,hb.trans hbl,(hh b 0 hbl).trans hheap,hk,hv,fun j p e hp he=>(hx j p e hp he).mono H.keep,fun j p e hp he=>(hy j p e hp he).mono H⟩
 | dfr =>
  rw [h1] at ho h
  cases h2:nthD .dead objs' i <;> rw [h2] at ho <;> first | exact ho.elim | skip
  obtain ⟨b,hbl,hheap⟩:=h
  exact ⟨b,hb.trans hbl,(hh b 0 hbl).trans hheap⟩
 | map ks vs im fz =>
  rw [h1] at ho h
  cases h2:nthD .dead objs' i <;> rw [h2] at ho <;> first | exact ho.elim | skip
  obtain ⟨rfl,rfl,rfl⟩:=ho
  obtain ⟨b,es,clock,hbl,hheap,hk,hv,hx,hy⟩:=h
  exact ⟨b,es,clock,hb.trans hbl,(hh b 0 hbl).trans hheap,hk,hv,fun j p e hp he=>(hx j p e hp he).mono H.keep,
   fun j p e hp he=>⟨(hy j p e hp he).1.mono H,fun him=>((hy j p e hp he).2 him).mono H.keep⟩⟩
section alloc
variable {w0 w:World} {Wx:Nat→Nat→Prop} {bl:zh} {objs:List Obj}
theorem Sim.lt_of_own (S:Sim w0 Wx w bl objs) {i:Nat} {x:Option (Nat×Nat)} (h:bl[i]?=some x):i<objs.length:=by
 rw [← S.len]
 exact (List.getElem?_eq_some_iff.1 h).1
theorem zi4 (S:Sim w0 Wx w bl objs) (ob:Go.Obj) (o:Obj) (o0:Nat) :
  Ext w (WT Wx bl objs) bl objs (w.alloc ob) (WT Wx (bl++[some (w.heap.size,o0)]) (objs++[o])) (bl++[some (w.heap.size,o0)]) (objs++[o]) where
 keep:=by
  have key:∀ b x,b<w.heap.size→¬ WT Wx bl objs b x→¬ WT Wx (bl++[some (w.heap.size,o0)]) (objs++[o]) b x:=by
   intro b x hb hw h
   refine hw ?_
   rcases h with h | ⟨i,o1,hi,hm⟩
   ·exact .inl h
   ·right
    by_cases hlt:i<bl.length
    ·rw [List.getElem?_append_left hlt] at hi
     rw [zo _ _ _ _ (S.len▸hlt)] at hm
     exact ⟨i,o1,hi,hm⟩
    ·exfalso
     have:i=bl.length:=by
      have:=(List.getElem?_eq_some_iff.1 hi).1
      simp at this; omega
     subst this
     simp at hi
     omega
  refine ⟨?_,?_⟩
  ·intro b x v hv hw
   have hb:b<w.heap.size:=World.block_lt_of_cell? w (a:=⟨b,x,none⟩) hv
   exact ⟨(World.cell?_alloc_lt w _ (a:=⟨b,x,none⟩) hb).trans hv,key b x hb hw⟩
  ·intro b es clock hv hw
   have hb:b<w.heap.size:=by
    rcases Nat.lt_or_ge b w.heap.size with h | h
    ·exact h
    ·rw [Array.getElem?_eq_none h] at hv; cases hv
   exact ⟨(Below.heap_alloc _ _ _ hb).trans hv,key b 0 hb hw⟩
 len:=by simp
 obj:=by
  intro i hi
  right
  refine ⟨List.getElem?_append_left (by rw [S.len]; exact hi),?_⟩
  rw [zo _ _ _ _ hi]
  exact z4u.refl _
 room:=by
  rintro b n ⟨cs,e,fr,hh,hn⟩
  refine ⟨cs,e,fr,?_,hn⟩
  have hlt:b<w.heap.size:=by
   rcases Nat.lt_or_ge b w.heap.size with h | h
   ·exact h
   ·rw [Array.getElem?_eq_none h] at hh; cases hh
  rw [Below.heap_alloc _ _ _ hlt]; exact hh
theorem zl5 (S:Sim w0 Wx w bl objs) (ob:Go.Obj) (o:Obj) (o0:Nat)
  (hnew:ORel (w.alloc ob) (WT Wx (bl++[some (w.heap.size,o0)]) (objs++[o])) (bl++[some (w.heap.size,o0)]) (objs++[o]) objs.length) :
  Sim w0 Wx (w.alloc ob) (bl++[some (w.heap.size,o0)]) (objs++[o]) where
 below:=S.below.alloc S.below.size ob
 len:=by simp [S.len]
 own:=by
  intro i b x hi
  by_cases hlt:i<bl.length
  ·rw [List.getElem?_append_left hlt] at hi
   have:=S.own i b x hi
   exact ⟨this.1,by rw [World.size_alloc]; omega⟩
  ·have:i=bl.length:=by
    have:=(List.getElem?_eq_some_iff.1 hi).1
    simp at this; omega
   subst this
   simp at hi
   obtain ⟨rfl,rfl⟩:=hi
   exact ⟨S.below.size,by rw [World.size_alloc]; omega⟩
 inj:=by
  intro i j b x y hi hj ai aj
  have key:∀ (i b x:Nat),(bl++[some (w.heap.size,o0)])[i]?=some (some (b,x))→(i<bl.length∧bl[i]?=some (some (b,x)))∨(i=bl.length∧b=w.heap.size):=by
   intro i b x hi
   by_cases hlt:i<bl.length
   ·rw [List.getElem?_append_left hlt] at hi
    exact .inl ⟨hlt,hi⟩
   ·have:i=bl.length:=by
     have:=(List.getElem?_eq_some_iff.1 hi).1
     simp at this; omega
    subst this
    simp at hi
    exact .inr ⟨rfl,hi.1.symm⟩
  rcases key i b x hi with ⟨h1,h2⟩ | ⟨h1,h2⟩ <;> rcases key j b y hj with ⟨h3,h4⟩ | ⟨h3,h4⟩
  ·refine S.inj i j b x y h2 h4 ?_ ?_
   ·unfold alive at ai ⊢; rwa [zo _ _ _ _ (S.len▸h1)] at ai
   ·unfold alive at aj ⊢; rwa [zo _ _ _ _ (S.len▸h3)] at aj
  ·have:=(S.own i b x h2).2; omega
  ·have:=(S.own j b y h4).2; omega
  ·omega
 obj:=by
  intro i hi
  by_cases hlt:i<objs.length
  ·refine (S.obj i hlt).keep (zi4 S ob o o0) ?_ (List.getElem?_append_left (by rw [S.len]; exact hlt)) ?_
   ·rw [zo _ _ _ _ hlt]; exact sameO.refl _
   ·intro b x hb
    exact Below.heap_alloc _ _ _ (S.own i b x hb).2
  ·have:i=objs.length:=by simp at hi; omega
   subst this
   exact hnew
 wx:=S.wx
theorem zpc (S:Sim w0 Wx w bl objs) (e s:Nat):Ext w (WT Wx bl objs) bl objs w (WT Wx (bl++[none]) (objs++[.row e s [] 0 none])) (bl++[none]) (objs++[.row e s [] 0 none]) where
 keep:=by
  have key:∀ b x,¬ WT Wx bl objs b x→¬ WT Wx (bl++[none]) (objs++[.row e s [] 0 none]) b x:=by
   intro b x hw h
   refine hw ?_
   rcases h with h | ⟨i,o1,hi,hm⟩
   ·exact .inl h
   ·right
    by_cases hlt:i<bl.length
    ·rw [List.getElem?_append_left hlt] at hi
     rw [zo _ _ _ _ (S.len▸hlt)] at hm
     exact ⟨i,o1,hi,hm⟩
    ·exfalso
     have:i=bl.length:=by
      have:=(List.getElem?_eq_some_iff.1 hi).1
      simp at this; omega
     subst this
     simp at hi
  exact ⟨fun b x v hv hw=>⟨hv,key b x hw⟩,fun b es c hv hw=>⟨hv,key b 0 hw⟩⟩
 len:=by simp
 obj:=by
  intro i hi
  right
  refine ⟨List.getElem?_append_left (by rw [S.len]; exact hi),?_⟩
  rw [zo _ _ _ _ hi]
  exact z4u.refl _
 room:=fun _ _ h=>h
theorem z158 (S:Sim w0 Wx w bl objs) (e s:Nat):Sim w0 Wx w (bl++[none]) (objs++[.row e s [] 0 none]) where
 below:=S.below
 len:=by simp [S.len]
 own:=by
  intro i b x hi
  by_cases hlt:i<bl.length
  ·rw [List.getElem?_append_left hlt] at hi
   exact S.own i b x hi
  ·have:i=bl.length:=by
    have:=(List.getElem?_eq_some_iff.1 hi).1
    simp at this; omega
   subst this
   simp at hi
 inj:=by
  intro i j b x y hi hj ai aj
  have key:∀ (i b x:Nat),(bl++[none])[i]?=some (some (b,x))→i<bl.length∧bl[i]?=some (some (b,x)):=by
   intro i b x hi
   by_cases hlt:i<bl.length
   ·rw [List.getElem?_append_left hlt] at hi
    exact ⟨hlt,hi⟩
   ·exfalso
    have:i=bl.length:=by
     have:=(List.getElem?_eq_some_iff.1 hi).1
     simp at this; omega
    subst this
    simp at hi
  obtain ⟨h1,h2⟩:=key i b x hi
  obtain ⟨h3,h4⟩:=key j b y hj
  refine S.inj i j b x y h2 h4 ?_ ?_
  ·unfold alive at ai ⊢; rwa [zo _ _ _ _ (S.len▸h1)] at ai
  ·unfold alive at aj ⊢; rwa [zo _ _ _ _ (S.len▸h3)] at aj
 obj:=by
  intro i hi
  by_cases hlt:i<objs.length
  ·refine (S.obj i hlt).keep (zpc S e s) ?_ (List.getElem?_append_left (by rw [S.len]; exact hlt)) (fun _ _ _=>rfl)
   rw [zo _ _ _ _ hlt]; exact sameO.refl _
  ·have:i=objs.length:=by simp at hi; omega
   subst this
   unfold ORel
   rw [z11]
   exact .inl ⟨by rw [← S.len]; simp,rfl,rfl⟩
 wx:=S.wx
end alloc
theorem z12r {w0 w w':World} {Wx:Nat→Nat→Prop} {bl:zh} {objs:List Obj} (hb:Below w.heap.size w w') :
  Ext w (WT Wx bl objs) bl objs w' (WT Wx bl objs) bl objs where
 keep:=by
  refine ⟨?_,?_⟩
  ·intro b x v hv hw
   refine ⟨?_,hw⟩
   have hlt:b<w.heap.size:=World.block_lt_of_cell? w (a:=⟨b,x,none⟩) hv
   have:=hb.block b hlt
   unfold World.cell? at hv ⊢
   simp only at hv ⊢
   rw [this]; exact hv
  ·intro b es c hv hw
   have hlt:b<w.heap.size:=by
    rcases Nat.lt_or_ge b w.heap.size with h | h
    ·exact h
    ·rw [Array.getElem?_eq_none h] at hv; cases hv
   exact ⟨(hb.block b hlt).trans hv,hw⟩
 len:=Nat.le_refl _
 obj:=fun i _=>.inr ⟨rfl,z4u.refl _⟩
 room:=by
  rintro b n ⟨cs,e,fr,hh,hn⟩
  refine ⟨cs,e,fr,?_,hn⟩
  have hlt:b<w.heap.size:=by
   rcases Nat.lt_or_ge b w.heap.size with h | h
   ·exact h
   ·rw [Array.getElem?_eq_none h] at hh; cases hh
  rw [hb.block b hlt]; exact hh
theorem z1as {w0 w w':World} {Wx:Nat→Nat→Prop} {bl:zh} {objs:List Obj} (S:Sim w0 Wx w bl objs) (hb:Below w.heap.size w w'):Sim w0 Wx w' bl objs where
 below:=S.below.trans (hb.mono S.below.size)
 len:=S.len
 own:=fun i b o h=>⟨(S.own i b o h).1,Nat.lt_of_lt_of_le (S.own i b o h).2 hb.size⟩
 inj:=S.inj
 obj:=fun i hi=>(S.obj i hi).keep (z12r (w0:=w0) hb) (sameO.refl _) rfl (fun b o h=>hb.block b (S.own i b o h).2)
 wx:=S.wx
def fzLe:Obj→Obj→Prop
 | .dead,.dead=>True
 | .cells e l f,.cells e' l' f'=>e=e'∧l=l'∧(f=true→f'=true)
 | .row e s l fz cap,.row e' s' l' fz' cap'=>e=e'∧s=s'∧l=l'∧cap=cap'∧fz≤fz'
 | .iter s p,.iter s' p'=>s=s'∧p=p'
 | .map ks vs im fz,.map ks' vs' im' fz'=>ks=ks'∧vs=vs'∧im=im'∧(fz=true→fz'=true)
 | .loop st pd fn T ps as bd,.loop st' pd' fn' T' ps' as' bd'=>st=st'∧pd=pd'∧fn=fn'∧T=T'∧ps=ps'∧as=as'∧bd=bd'
 | .dfr,.dfr=>True
 | .bmap a b,.bmap a' b'=>a=a'∧b=b'
 | .hole,.hole=>True
 | _,_=>False
theorem fzLe.refl (o:Obj):fzLe o o:=by cases o <;> simp [fzLe]
theorem fzLe.same {a b:Obj} (h:fzLe a b):sameO a b:=by cases a <;> cases b <;> simp_all [sameO,fzLe]
theorem fzLe.trans {a b c:Obj} (h:fzLe a b) (h':fzLe b c):fzLe a c:=by
 cases a with
 | dead=>cases b <;> cases c <;> simp_all [fzLe]
 | cells e l f=>cases b <;> cases c <;> simp_all [fzLe]
 | iter s p=>cases b <;> cases c <;> simp_all [fzLe]
 | map ks vs im fz=>cases b <;> cases c <;> simp_all [fzLe]
 | hole=>cases b <;> cases c <;> simp_all [fzLe]
 | loop _ _ _ _ _ _ _=>cases b <;> cases c <;> simp_all [fzLe]
 | dfr=>cases b <;> cases c <;> simp_all [fzLe]
 | bmap _ _=>cases b <;> cases c <;> simp_all [fzLe]
 | row e s l f c0 =>
  cases b <;> first | exact h.elim | skip
  cases c <;> first | exact h'.elim | skip
  exact ⟨h.1.trans h'.1,h.2.1.trans h'.2.1,h.2.2.1.trans h'.2.2.1,h.2.2.2.1.trans h'.2.2.2.1,Nat.le_trans h.2.2.2.2 h'.2.2.2.2⟩
structure FzLe (objs objs':List Obj):Prop where
 len:objs'.length=objs.length
 obj:∀ i,fzLe (nthD .dead objs i) (nthD .dead objs' i)
theorem FzLe.refl (objs:List Obj):FzLe objs objs:=⟨rfl,fun _=>fzLe.refl _⟩
theorem FzLe.trans {a b c:List Obj} (h:FzLe a b) (h':FzLe b c):FzLe a c:=⟨h'.len.trans h.len,fun i=>(h.obj i).trans (h'.obj i)⟩
theorem FzLe.set {objs:List Obj} {i:Nat} {o:Obj} (h:fzLe (nthD .dead objs i) o) (hi:i<objs.length):FzLe objs (setN objs i o):=by
 refine ⟨by simp,fun j=>?_⟩
 by_cases hij:i=j
 ·subst hij; rw [z8 _ _ _ _ hi]; exact h
 ·rw [zd _ _ _ _ _ hij]; exact fzLe.refl _
theorem WO_fz {bl:zh} {objs objs':List Obj} (h:FzLe objs objs') {b o:Nat} (hw:WO bl objs' b o):WO bl objs b o:=by
 obtain ⟨i,o0,hb,hm⟩:=hw
 refine ⟨i,o0,hb,?_⟩
 have ho:=h.obj i
 cases h1:nthD .dead objs i with
 | dead=>rw [h1] at ho; cases h2:nthD .dead objs' i <;> rw [h2] at ho hm <;> first | exact hm | exact ho.elim
 | cells e l f =>
  rw [h1] at ho
  cases h2:nthD .dead objs' i <;> rw [h2] at ho hm <;> first | exact ho.elim | skip
  rename_i e' l' f'
  cases f with
  | false=>trivial
  | true=>rw [ho.2.2 rfl] at hm; exact hm
 | row e s l fz cap =>
  rw [h1] at ho
  cases h2:nthD .dead objs' i <;> rw [h2] at ho hm <;> first | exact ho.elim | skip
  obtain ⟨rfl,rfl,_,_,hle⟩:=ho
  have hle':=Nat.mul_le_mul_right s hle
  exact Nat.le_trans (Nat.add_le_add_left hle' o0) hm
 | iter s p=>trivial
 | bmap _ _=>trivial
 | hole=>rw [h1] at ho; cases h2:nthD .dead objs' i <;> rw [h2] at ho hm <;> first | exact hm | exact ho.elim
 | loop _ _ _ _ _ _ _=>rw [h1] at ho; cases h2:nthD .dead objs' i <;> rw [h2] at ho hm <;> first | exact hm | exact ho.elim
 | dfr=>rw [h1] at ho; cases h2:nthD .dead objs' i <;> rw [h2] at ho hm <;> first | exact hm | exact ho.elim
 | map ks vs im fz =>
  rw [h1] at ho
  cases h2:nthD .dead objs' i <;> rw [h2] at ho hm <;> first | exact ho.elim | skip
  rename_i ks' vs' im' fz'
  cases fz with
  | false=>trivial
  | true=>rw [ho.2.2.2 rfl] at hm; exact hm
theorem zep {w:World} {Wx:Nat→Nat→Prop} {bl:zh} {objs objs':List Obj} (h:FzLe objs objs'):Ext w (WT Wx bl objs) bl objs w (WT Wx bl objs') bl objs' where
 keep:=⟨fun b o v hv hw=>⟨hv,fun hw'=>hw (hw'.imp id (WO_fz h))⟩,fun b es c hv hw=>⟨hv,fun hw'=>hw (hw'.imp id (WO_fz h))⟩⟩
 len:=by rw [h.len]; exact Nat.le_refl _
 obj:=fun i _=>.inr ⟨rfl,(h.obj i).same.alike⟩
 room:=fun _ _ h=>h
theorem zcq {w0 w:World} {Wx:Nat→Nat→Prop} {bl:zh} {objs objs':List Obj} (S:Sim w0 Wx w bl objs) (h:FzLe objs objs'):Sim w0 Wx w bl objs' where
 below:=S.below
 len:=S.len.trans h.len.symm
 own:=S.own
 inj:=by
  intro i j b o o' hi hj ai aj
  have key:∀ i,alive objs' i→alive objs i:=by
   intro i
   have:=h.obj i
   unfold alive
   revert this
   cases nthD .dead objs i <;> cases nthD .dead objs' i <;> simp [fzLe]
  exact S.inj i j b o o' hi hj (key i ai) (key j aj)
 obj:=fun i hi=>(S.obj i (h.len▸hi)).keep (zep h) (h.obj i).same rfl (fun _ _ _=>rfl)
 wx:=S.wx
end Dv

namespace Dv
open Go Go.RowKit
section
variable {w0 w:World} {Wx:Nat→Nat→Prop} {bl:zh} {objs:List Obj}
theorem notW (S:Sim w0 Wx w bl objs) {i b o x:Nat} (hb:bl[i]?=some (some (b,o))) (ha:alive objs i)
  (hn:match nthD .dead objs i with | .cells e _ false=>False | .row e s _ fz _=>x<o+fz*s | .iter ..=>False | .map _ _ _ false=>False | .bmap ..=>False | _=>True):¬ WT Wx bl objs b x:=by
 rintro (h | ⟨j,o',hj,hm⟩)
 ·have:=S.wx b x h
  have:=(S.own i b o hb).1
  omega
 ·have haj:alive objs j:=by
   unfold alive
   revert hm
   cases nthD .dead objs j <;> simp [mayW]
  obtain rfl:=S.inj i j b o o' hb hj ha haj
  have:o'=o:=by
   have:=hb.symm.trans hj
   simp at this
   exact this.symm
  subst this
  revert hn hm
  cases nthD .dead objs i with
  | dead=>intro hm; exact hm.elim
  | hole=>intro hm; exact hm.elim
  | cells e l f =>
   cases f with
   | true=>intro hm; exact hm.elim
   | false=>intro _ hn; exact hn.elim
  | row e s l fz cap =>
   intro h1 h2
   first
    | (have h3:o'+fz*s≤x:=h2; have h4:x<o'+fz*s:=h1; omega)
    | (have h3:o'+fz*s≤x:=h1; have h4:x<o'+fz*s:=h2; omega)
  | iter s p=>intro hm hn; exact hn.elim
  | loop _ _ _ _ _ _ _=>intro hm; exact hm.elim
  | dfr=>intro hm; exact hm.elim
  | bmap _ _=>intro hm hn; exact hn.elim
  | map ks vs im fz =>
   cases fz with
   | true=>intro hm; exact hm.elim
   | false=>intro _ hn; exact hn.elim
def leafP:PV→Prop
 | .undef | .bool _ | .int .. | .str _ | .nilp | .nilm | .nilfn | .nili | .sl .. | .ref .. | .mp ..=>True
 | _=>False
theorem VR.frozen_leaf {W:Nat→Nat→Prop} {p:PV} {v:Value} (h:VR w W bl objs p v) (hp:leafP p):VRf w W p v:=by
 cases h with
 | fz p v h=>exact h
 | dead p v i _ hr=>cases p <;> simp [refOf] at hr <;> exact hp.elim
 | _=>exact hp.elim
theorem z17m (S:Sim w0 Wx w bl objs) {i e s fz:Nat} {l:List PV} {cap:Option Nat} (hi:i<objs.length) (ho:nthD .dead objs i=.row e s l fz cap)
  (lo n:Nat) (hn:lo+n≤l.length) (hfz:lo+n≤fz) {b o c:Nat} (hb:bl[i]?=some (some (b,o))) (hc:n≤c) :
  VRf w (WT Wx bl objs) (.sl s ((l.drop lo).take n)) (.slice (some ⟨b,o+lo*s,none⟩) n c):=by
 have hO:=S.obj i hi
 unfold ORel at hO
 rw [ho] at hO
 rcases hO with ⟨h,_⟩ | ⟨b',o',cs,fr,hb',hheap,hsz,hnf,hel⟩
 ·rw [hb] at h; cases h
 ·rw [hb] at hb'
  simp at hb'
  obtain ⟨rfl,rfl⟩:=hb'
  have hlen:((l.drop lo).take n).length=n:=by simp; omega
  have hget:∀ (k:Nat) (p:PV),((l.drop lo).take n)[k]?=some p→k<n∧l[lo+k]?=some p:=by
   intro k p hk
   have hkn:k<n:=by have:=(List.getElem?_eq_some_iff.1 hk).1; omega
   rw [List.getElem?_take_of_lt hkn,List.getElem?_drop] at hk
   exact ⟨hkn,hk⟩
  have:=VRf.sl (w:=w) (W:=WT Wx bl objs) s ((l.drop lo).take n) b (o+lo*s) c (fun k j=>cs.getD (o+(lo+k)*s+j) undef) (by omega)
   (fun k p hk=>⟨(hel _ p (hget k p hk).2).1,zw7 (fun q hq=>let ⟨j,hj⟩:=List.getElem?_of_mem hq; ((hel _ p (hget k p hk).2).2 j q hj).1)⟩) ?_ ?_
  ·rw [hlen] at this; exact this
  ·intro k p hk j q hq
   obtain ⟨hkn,hlk⟩:=hget k p hk
   obtain ⟨hcl,hcc⟩:=hel _ p hlk
   obtain ⟨_,v,hv,_⟩:=hcc j q hq
   have hj:j<s:=by have:=(List.getElem?_eq_some_iff.1 hq).1; omega
   have e1:o+lo*s+k*s+j=o+(lo+k)*s+j:=by rw [Nat.add_mul]; omega
   refine ⟨?_,notW S hb (by unfold alive; rw [ho]; trivial) ?_⟩
   ·unfold World.cell?
    simp only [hheap]
    rw [e1]
    simp [Array.getD_eq_getD_getElem?,hv]
   ·rw [ho]
    simp only
    have h1:(lo+k+1)*s≤fz*s:=Nat.mul_le_mul_right s (by omega)
    have h2:(lo+k+1)*s=(lo+k)*s+s:=by rw [Nat.add_mul]; omega
    omega
  ·intro k p hk j q hq
   obtain ⟨hkn,hlk⟩:=hget k p hk
   obtain ⟨hcl,hcc⟩:=hel _ p hlk
   obtain ⟨_,v,hv,hr⟩:=hcc j q hq
   simp only [Array.getD_eq_getD_getElem?,hv,Option.getD_some]
   exact hr
theorem z3j {l:List PV} {j:Nat} {p:PV} (h:l[j]?=some p):j<l.length:=(List.getElem?_eq_some_iff.1 h).1
end
def PureV (w0 w:World) (Wx:Nat→Nat→Prop) (bl:zh) (n:Nat):Prop :=
 ∀ objs p p' objs' v,Sim w0 Wx w bl objs→purify n objs p=some (p',objs')→VR w (WT Wx bl objs) bl objs p v→FzLe objs objs'∧VRf w (WT Wx bl objs') p' v
def PureL (w0 w:World) (Wx:Nat→Nat→Prop) (bl:zh) (n:Nat):Prop :=
 ∀ objs l l' objs' (g:Nat→Value),Sim w0 Wx w bl objs→purifyL n objs l=some (l',objs')→(∀ (j:Nat) (p:PV),l[j]?=some p→VR w (WT Wx bl objs) bl objs p (g j)) →
  FzLe objs objs'∧l'.length=l.length∧∀ (j:Nat) (p:PV),l'[j]?=some p→VRf w (WT Wx bl objs') p (g j)
theorem VRf.sl_congr {w:World} {W:Nat→Nat→Prop} {s:Nat} {l l':List PV} {a:Option Addr} {n n' c:Nat} (h:VRf w W (.sl s l) (.slice a n c)) (hl:l=l') (hn:n=n') :
  VRf w W (.sl s l') (.slice a n' c):=hl▸hn▸h
theorem z3n (w0 w:World) (Wx:Nat→Nat→Prop) (bl:zh):∀ n,PureV w0 w Wx bl n∧PureL w0 w Wx bl n:=by
 intro n
 induction n with
 | zero =>
  refine ⟨?_,?_⟩
  ·intro objs p p' objs' v S h; simp [purify] at h
  ·intro objs l l' objs' g S h; simp [purifyL] at h
 | succ n ih =>
  obtain ⟨ihV,ihL⟩:=ih
  have leaf:∀ objs p v,Sim w0 Wx w bl objs→VR w (WT Wx bl objs) bl objs p v →
    leafP p→FzLe objs objs∧VRf w (WT Wx bl objs) p v :=
   fun objs p v S hv hp=>⟨FzLe.refl _,hv.frozen_leaf hp⟩
  refine ⟨?_,?_⟩
  ·intro objs p p' objs' v S h hv
   cases p with
   | undef=>simp only [purify,oJ,pJ] at h; obtain ⟨rfl,rfl⟩:=h; exact leaf _ _ _ S hv trivial
   | bool b=>simp only [purify,oJ,pJ] at h; obtain ⟨rfl,rfl⟩:=h; exact leaf _ _ _ S hv trivial
   | int k x=>simp only [purify,oJ,pJ] at h; obtain ⟨rfl,rfl⟩:=h; exact leaf _ _ _ S hv trivial
   | str s=>simp only [purify,oJ,pJ] at h; obtain ⟨rfl,rfl⟩:=h; exact leaf _ _ _ S hv trivial
   | nilp=>simp only [purify,oJ,pJ] at h; obtain ⟨rfl,rfl⟩:=h; exact leaf _ _ _ S hv trivial
   | nilm=>simp only [purify,oJ,pJ] at h; obtain ⟨rfl,rfl⟩:=h; exact leaf _ _ _ S hv trivial
   | nilfn=>simp only [purify,oJ,pJ] at h; obtain ⟨rfl,rfl⟩:=h; exact leaf _ _ _ S hv trivial
   | nili=>simp only [purify,oJ,pJ] at h; obtain ⟨rfl,rfl⟩:=h; exact leaf _ _ _ S hv trivial
   | sl s l=>simp only [purify,oJ,pJ] at h; obtain ⟨rfl,rfl⟩:=h; exact leaf _ _ _ S hv trivial
   | ref cs o=>simp only [purify,oJ,pJ] at h; obtain ⟨rfl,rfl⟩:=h; exact leaf _ _ _ S hv trivial
   | mp ks vs=>simp only [purify,oJ,pJ] at h; obtain ⟨rfl,rfl⟩:=h; exact leaf _ _ _ S hv trivial
   | mapr i =>
    simp only [purify] at h
    split at h
    ·rename_i ks vs f ho
     simp only [oJ,pJ] at h
     obtain ⟨rfl,rfl⟩:=h
     cases hv with
     | fz _ _ h=>cases h
     | dead p v j _ hr _ hd=>simp only [refOf,oJ] at hr; subst hr; rw [ho] at hd; cases hd
     | mapr _ b hi hb =>
      have F:FzLe objs (setN objs i (.map ks vs false true)):=FzLe.set (by rw [ho]; exact ⟨rfl,rfl,rfl,fun _=>rfl⟩) hi
      refine ⟨F,?_⟩
      have S':=zcq S F
      have hO:=S'.obj i (by simpa using hi)
      unfold ORel at hO
      rw [z8 _ _ _ _ hi] at hO
      obtain ⟨b',es,clock,hb',hheap,hk,hv,hx,hy⟩:=hO
      obtain rfl:b'=b:=by
       have:=hb.symm.trans hb'
       simp at this
       exact this.symm
      exact .mp ks vs b' es clock hheap (notW S' hb' (by unfold alive; rw [z8 _ _ _ _ hi]; trivial) (by rw [z8 _ _ _ _ hi]; trivial)) hk hv hx (fun j p e hp he=>(hy j p e hp he).2 rfl)
    ·cases h
   | sl0 =>
    simp only [purify,oJ,pJ] at h
    obtain ⟨rfl,rfl⟩:=h
    refine ⟨FzLe.refl _,?_⟩
    cases hv with
    | fz _ _ h=>cases h
    | sl0=>exact .slemp _ _ _
    | dead p v i _ hr=>simp [refOf] at hr
   | se =>
    simp only [purify,oJ,pJ] at h
    obtain ⟨rfl,rfl⟩:=h
    refine ⟨FzLe.refl _,?_⟩
    cases hv with
    | fz _ _ h=>cases h
    | se a=>exact .slemp _ _ _
    | dead p v i _ hr=>simp [refOf] at hr
   | opq x off =>
    cases off with
    | succ k=>simp [purify] at h
    | zero =>
     simp only [purify,oJ,pJ] at h
     obtain ⟨rfl,rfl⟩:=h
     refine ⟨FzLe.refl _,?_⟩
     cases hv with
     | fz _ _ h=>cases h with | opq0 _ _ _ h=>exact h
     | opq0 _ _ _ h=>exact h
     | opq _ b o _ _ h=>exact h
     | dead p v i _ hr=>simp [refOf] at hr
   | iface t x =>
    simp only [purify] at h
    cases hx:purify n objs x with
    | none=>rw [hx] at h; cases h
    | some y =>
     obtain ⟨y,o⟩:=y
     rw [hx] at h
     simp only [oJ,pJ] at h
     obtain ⟨rfl,rfl⟩:=h
     cases hv with
     | fz _ _ h =>
      cases h with
      | iface _ _ u h =>
       obtain ⟨h1,h2⟩:=ihV objs x y o u S hx (.fz _ _ h)
       exact ⟨h1,.iface _ _ _ h2⟩
     | iface _ _ u h =>
      obtain ⟨h1,h2⟩:=ihV objs x y o u S hx h
      exact ⟨h1,.iface _ _ _ h2⟩
     | dead p v i _ hr=>simp [refOf] at hr
   | func fn a b =>
    simp only [purify] at h
    cases hyf:isYield fn with
    | true=>rw [hyf] at h; cases h
    | false =>
    rw [hyf] at h
    simp only [cond_false] at h
    cases ha:purifyL n objs a with
    | none=>rw [ha] at h; cases h
    | some y =>
     obtain ⟨a',o1⟩:=y
     rw [ha] at h
     simp only at h
     cases hb:purifyL n o1 b with
     | none=>rw [hb] at h; cases h
     | some z =>
      obtain ⟨b',o2⟩:=z
      rw [hb] at h
      simp only [oJ,pJ] at h
      obtain ⟨rfl,rfl⟩:=h
      obtain ⟨xs,ys,rfl,hxs,hys,hx,hy⟩:∃ xs ys:Array Value,v=.func fn xs ys∧a.length=xs.size∧b.length=ys.size ∧
        (∀ (j:Nat) (p:PV),a[j]?=some p→VR w (WT Wx bl objs) bl objs p (xs.getD j undef))∧(∀ (j:Nat) (p:PV),b[j]?=some p→VR w (WT Wx bl objs) bl objs p (ys.getD j undef)):=by
       cases hv with
       | fz _ _ h=>cases h with | func _ _ _ xs ys h1 h2 h3 h4=>exact ⟨xs,ys,rfl,h1,h2,fun j p hp=>.fz _ _ (h3 j p hp),fun j p hp=>.fz _ _ (h4 j p hp)⟩
       | func _ _ _ xs ys h1 h2 h3 h4=>exact ⟨xs,ys,rfl,h1,h2,h3,h4⟩
       | yv _ _ _ _=>cases hyf
       | dead p v i _ hr=>simp [refOf] at hr
      obtain ⟨f1,l1,r1⟩:=ihL objs a a' o1 (fun j=>xs.getD j undef) S ha hx
      obtain ⟨f2,l2,r2⟩:=ihL o1 b b' o2 (fun j=>ys.getD j undef) (zcq S f1) hb (fun j p hp=>(hy j p hp).mono (zep f1))
      exact ⟨f1.trans f2,.func _ _ _ _ _ (l1.trans hxs) (l2.trans hys) (fun j p hp=>(r1 j p hp).mono (zep (w:=w) (bl:=bl) f2).keep) r2 hyf⟩
   | agg l =>
    simp only [purify] at h
    cases ha:purifyL n objs l with
    | none=>rw [ha] at h; cases h
    | some y =>
     obtain ⟨a',o1⟩:=y
     rw [ha] at h
     simp only [oJ,pJ] at h
     obtain ⟨rfl,rfl⟩:=h
     obtain ⟨xs,rfl,hxs,hx⟩:∃ xs:Array Value,v=.agg xs∧l.length=xs.size∧(∀ (j:Nat) (p:PV),l[j]?=some p→VR w (WT Wx bl objs) bl objs p (xs.getD j undef)):=by
      cases hv with
      | fz _ _ h=>cases h with | agg _ xs h1 h3=>exact ⟨xs,rfl,h1,fun j p hp=>.fz _ _ (h3 j p hp)⟩
      | agg _ xs h1 h3=>exact ⟨xs,rfl,h1,h3⟩
      | dead p v i _ hr=>simp [refOf] at hr
     obtain ⟨f1,l1,r1⟩:=ihL objs l a' o1 (fun j=>xs.getD j undef) S ha hx
     exact ⟨f1,.agg _ _ (l1.trans hxs) r1⟩
   | tuple l =>
    simp only [purify] at h
    cases ha:purifyL n objs l with
    | none=>rw [ha] at h; cases h
    | some y =>
     obtain ⟨a',o1⟩:=y
     rw [ha] at h
     simp only [oJ,pJ] at h
     obtain ⟨rfl,rfl⟩:=h
     obtain ⟨xs,rfl,hxs,hx⟩:∃ xs:Array Value,v=.tuple xs∧l.length=xs.size∧(∀ (j:Nat) (p:PV),l[j]?=some p→VR w (WT Wx bl objs) bl objs p (xs.getD j undef)):=by
      cases hv with
      | fz _ _ h=>cases h with | tuple _ xs h1 h3=>exact ⟨xs,rfl,h1,fun j p hp=>.fz _ _ (h3 j p hp)⟩
      | tuple _ xs h1 h3=>exact ⟨xs,rfl,h1,h3⟩
      | dead p v i _ hr=>simp [refOf] at hr
     obtain ⟨f1,l1,r1⟩:=ihL objs l a' o1 (fun j=>xs.getD j undef) S ha hx
     exact ⟨f1,.tuple _ _ (l1.trans hxs) r1⟩
   | lall i =>
    simp only [purify] at h
    cases ho:nthD .dead objs i with
    | row e s l fz cap =>
     rw [ho] at h
     simp only [oJ,pJ] at h
     obtain ⟨rfl,rfl⟩:=h
     have hi:i<objs.length:=by
      rcases Nat.lt_or_ge i objs.length with h | h
      ·exact h
      ·rw [zhi _ _ _ h] at ho; cases ho
     have F:FzLe objs (setN objs i (.row e s l (max fz l.length) cap)):=FzLe.set (by rw [ho]; exact ⟨rfl,rfl,rfl,rfl,Nat.le_max_left _ _⟩) hi
     have S':=zcq S F
     refine ⟨F,?_⟩
     cases hv with
     | fz _ _ h=>cases h
     | dead p v j _ hr _ hd=>simp only [refOf,oJ] at hr; subst hr; rw [ho] at hd; cases hd
     | lall j b o s' fz' c l' cap' hj ho' hb hc hm hr =>
      rw [ho] at ho'; cases ho'
      have:=z17m S' (i:=i) (by simp; exact hi) (z8 _ _ _ _ hi) 0 l.length (by omega) (by omega) hb hc
      refine VRf.sl_congr (by simpa using this) rfl rfl
     | lallE j s' fz' a hj ho' hb=>rw [ho] at ho'; cases ho'; exact .slemp _ _ _
    | _=>rw [ho] at h; cases h
   | lsl i off len lim =>
    simp only [purify] at h
    cases ho:nthD .dead objs i with
    | row e s l fz cap =>
     rw [ho] at h
     simp only [oJ,pJ] at h
     obtain ⟨rfl,rfl⟩:=h
     have hi:i<objs.length:=by
      rcases Nat.lt_or_ge i objs.length with h | h
      ·exact h
      ·rw [zhi _ _ _ h] at ho; cases ho
     have F:FzLe objs (setN objs i (.row e s l (max fz (off+len)) cap)):=FzLe.set (by rw [ho]; exact ⟨rfl,rfl,rfl,rfl,Nat.le_max_left _ _⟩) hi
     have S':=zcq S F
     refine ⟨F,?_⟩
     cases hv with
     | fz _ _ h=>cases h
     | dead p v j _ hr _ hd=>simp only [refOf,oJ] at hr; subst hr; rw [ho] at hd; cases hd
     | lsl j _ _ b o s' fz' c _ cap' l' hj ho' hb hl hc hm hm' hx' hr =>
      rw [ho] at ho'; cases ho'
      exact z17m S' (i:=i) (by simp; exact hi) (z8 _ _ _ _ hi) off len hl (Nat.le_max_right _ _) hb hc
     | lslE j _ s' fz' _ cap' l' a hj ho' hl hm hm' hx' =>
      rw [List.take_zero]
      exact .slemp _ _ _
    | _=>rw [ho] at h; cases h
   | raw i n=>simp [purify] at h
   | resv i=>simp [purify] at h
   | ptr i off =>
    simp only [purify] at h
    have key:∀ (objs1:List Obj) (e:Nat) (l l':List PV) (o2:List Obj),FzLe objs objs1→nthD .dead objs1 i=.cells e l true→i<objs.length→purifyL n objs1 l=some (l',o2) →
      FzLe objs o2∧VRf w (WT Wx bl o2) (.ref l' off) v:=by
     intro objs1 e l l' o2 F1 h1 hi hp
     have S1:=zcq S F1
     have hO:=S1.obj i (by rw [F1.len]; exact hi)
     unfold ORel at hO
     rw [h1] at hO
     obtain ⟨b,cs,fr,hb,hheap,hsz,hnf,hel⟩:=hO
     obtain ⟨f2,l2,r2⟩:=ihL objs1 l l' o2 (fun j=>cs.getD j undef) S1 hp (fun j p hj=>by
      obtain ⟨_,u,hu,hr⟩:=hel j p hj
      simp only [Array.getD_eq_getD_getElem?,hu,Option.getD_some]; exact hr)
     have S2:=zcq S1 f2
     have h2:nthD .dead o2 i=.cells e l true:=by
      have:=f2.obj i
      rw [h1] at this
      cases h3:nthD .dead o2 i <;> rw [h3] at this <;> first | exact this.elim | skip
      obtain ⟨rfl,rfl,hf⟩:=this
      rw [hf rfl]
     refine ⟨F1.trans f2,?_⟩
     have hvv:v=.pointer (some ⟨b,0+off,none⟩):=by
      cases hv with
      | fz _ _ h=>cases h
      | dead p v j _ hr _ hd =>
       simp only [refOf,oJ] at hr; subst hr
       have:=F1.obj i
       rw [hd,h1] at this; exact this.elim
      | ptr j _ b' o' hj hb' =>
       rw [hb] at hb'
       simp at hb'
       obtain ⟨rfl,rfl⟩:=hb'
       rfl
     subst hvv
     refine .ref l' off b 0 (fun j=>cs.getD j undef) ?_ r2
     intro j q hq
     have hj:j<cs.size:=by rw [hsz,← l2]; exact z3j hq
     refine ⟨?_,notW S2 hb (by unfold alive; rw [h2]; trivial) (by rw [h2]; trivial)⟩
     unfold World.cell?
     simp only [hheap,Nat.zero_add]
     simp [Array.getD_eq_getD_getElem?,hj]
    have lt:∀ e l f,nthD .dead objs i=.cells e l f→i<objs.length:=by
     intro e l f ho
     rcases Nat.lt_or_ge i objs.length with h | h
     ·exact h
     ·rw [zhi _ _ _ h] at ho; cases ho
    cases ho:nthD .dead objs i with
    | cells e l f =>
     cases f with
     | true =>
      rw [ho] at h
      simp only at h
      cases hp:purifyL n objs l with
      | none=>rw [hp] at h; cases h
      | some y =>
       obtain ⟨l',o2⟩:=y
       rw [hp] at h
       simp only [oJ,pJ] at h
       obtain ⟨rfl,rfl⟩:=h
       exact key objs e l l' o2 (FzLe.refl _) ho (lt _ _ _ ho) hp
     | false =>
      rw [ho] at h
      simp only at h
      cases hp:purifyL n (setN objs i (.cells e l true)) l with
      | none=>rw [hp] at h; cases h
      | some y =>
       obtain ⟨l',o2⟩:=y
       rw [hp] at h
       simp only [oJ,pJ] at h
       obtain ⟨rfl,rfl⟩:=h
       have hi:=lt _ _ _ ho
       exact key _ e l l' o2 (FzLe.set (by rw [ho]; exact ⟨rfl,rfl,fun _=>rfl⟩) hi) (z8 _ _ _ _ hi) hi hp
    | _=>rw [ho] at h; cases h
   | rptr i k off =>
    simp only [purify] at h
    cases ho:nthD .dead objs i with
    | row e s l fz cap =>
     rw [ho] at h
     simp only at h
     cases hk:l[k]? with
     | none=>rw [hk] at h; cases h
     | some u =>
      rw [hk] at h
      simp only [oJ,pJ] at h
      obtain ⟨rfl,rfl⟩:=h
      have hi:i<objs.length:=by
       rcases Nat.lt_or_ge i objs.length with h | h
       ·exact h
       ·rw [zhi _ _ _ h] at ho; cases ho
      have F:FzLe objs (setN objs i (.row e s l (max fz (k+1)) cap)):=FzLe.set (by rw [ho]; exact ⟨rfl,rfl,rfl,rfl,Nat.le_max_left _ _⟩) hi
      have S':=zcq S F
      refine ⟨F,?_⟩
      cases hv with
      | fz _ _ h=>cases h
      | dead p v j _ hr _ hd=>simp only [refOf,oJ] at hr; subst hr; rw [ho] at hd; cases hd
      | rptr j _ _ b o s' fz' l' cap' hj ho' hb =>
       rw [ho] at ho'; cases ho'
       have hO:=S'.obj i (by simp; exact hi)
       unfold ORel at hO
       rw [z8 _ _ _ _ hi] at hO
       rcases hO with ⟨h,_⟩ | ⟨b',o',cs,fr,hb',hheap,hsz,hnf,hel⟩
       ·rw [hb] at h; cases h
       ·rw [hb] at hb'
        simp at hb'
        obtain ⟨rfl,rfl⟩:=hb'
        obtain ⟨hcl,hcc⟩:=hel k u hk
        refine .ref _ off b (o+k*s) (fun j=>cs.getD (o+k*s+j) undef) ?_ ?_
        ·intro j q hq
         obtain ⟨_,x,hx,_⟩:=hcc j q hq
         have hj:j<s:=by have:=z3j hq; omega
         refine ⟨?_,notW S' hb (by unfold alive; rw [z8 _ _ _ _ hi]; trivial) ?_⟩
         ·unfold World.cell?
          simp only [hheap]
          simp [Array.getD_eq_getD_getElem?,hx]
         ·rw [z8 _ _ _ _ hi]
          simp only
          have h1:(k+1)*s≤(max fz (k+1))*s:=Nat.mul_le_mul_right s (Nat.le_max_right _ _)
          have h2:(k+1)*s=k*s+s:=by rw [Nat.add_mul]; omega
          omega
        ·intro j q hq
         obtain ⟨_,x,hx,hr⟩:=hcc j q hq
         simp only [Array.getD_eq_getD_getElem?,hx,Option.getD_some]
         exact hr
    | _=>rw [ho] at h; cases h
  ·intro objs l l' objs' g S h hv
   cases l with
   | nil =>
    simp only [purifyL,oJ,pJ] at h
    obtain ⟨rfl,rfl⟩:=h
    exact ⟨FzLe.refl _,rfl,fun j p hp=>by simp at hp⟩
   | cons p ps =>
    simp only [purifyL] at h
    cases h1:purify n objs p with
    | none=>rw [h1] at h; cases h
    | some y =>
     obtain ⟨p',o1⟩:=y
     rw [h1] at h
     simp only at h
     cases h2:purifyL n o1 ps with
     | none=>rw [h2] at h; cases h
     | some z =>
      obtain ⟨ps',o2⟩:=z
      rw [h2] at h
      simp only [oJ,pJ] at h
      obtain ⟨rfl,rfl⟩:=h
      obtain ⟨f1,r1⟩:=ihV objs p p' o1 (g 0) S h1 (hv 0 p rfl)
      obtain ⟨f2,l2,r2⟩:=ihL o1 ps ps' o2 (fun j=>g (j+1)) (zcq S f1) h2 (fun j q hq=>(hv (j+1) q (by simpa using hq)).mono (zep f1))
      refine ⟨f1.trans f2,by simp [l2],fun j q hq=>?_⟩
      cases j with
      | zero =>
       simp at hq
       subst hq
       exact r1.mono (zep (w:=w) (bl:=bl) f2).keep
      | succ j=>exact r2 j q (by simpa using hq)
end Dv

namespace Dv
open Go Go.RowKit
mutual
def zOk:Nat→PV→Value→Bool
 | 0,_,_=>false
 | _+1,.undef,_=>true
 | _+1,.bool a,.bool b=>a == b
 | _+1,.int k a,.int k' b=>ikEq k k'&&decide (a=b)
 | _+1,.str a,.string b=>decide (a=b.data.toList)
 | _+1,.nilp,.pointer a=>a.isNone
 | _+1,.nilm,.map a=>a.isNone
 | _+1,.nilfn,.nilFunc=>true
 | _+1,.nili,.nilIface=>true
 | _+1,.sl0,.slice a l c=>a.isNone&&(l == 0)&&(c == 0)
 | n+1,.agg l,.agg cs=>zOkL n l cs.toList
 | _+1,_,_=>false
def zOkL:Nat→List PV→List Value→Bool
 | 0,_,_=>false
 | _+1,[],[]=>true
 | n+1,p::ps,v::vs=>zOk n p v&&zOkL n ps vs
 | _+1,_,_=>false
end
theorem zfr {a b:IntKind} (h:ikEq a b=true):a=b:=by cases a <;> cases b <;> simp_all [ikEq]
theorem zla (w:World) (W:Nat→Nat→Prop) (bl:zh) (objs:List Obj):∀ n,
  (∀ p v,zOk n p v=true→VR w W bl objs p v) ∧
  (∀ l vs,zOkL n l vs=true→l.length=vs.length∧∀ (j:Nat) (p:PV),l[j]?=some p→VR w W bl objs p (vs.getD j undef)):=by
 intro n
 induction n with
 | zero=>exact ⟨fun p v h=>by simp [zOk] at h,fun l vs h=>by simp [zOkL] at h⟩
 | succ n ih =>
  refine ⟨fun p v h=>?_,fun l vs h=>?_⟩
  ·cases p with
   | undef=>exact .fz _ _ (.undef _)
   | bool b=>cases v with
    | bool c=>simp only [zOk] at h; rw [eq_of_beq h]; exact .fz _ _ (.bool _)
    | _=>simp [zOk] at h
   | int k a=>cases v with
    | int k' b=>simp only [zOk,Bool.and_eq_true] at h; rw [zfr h.1,of_decide_eq_true h.2]; exact .fz _ _ (.int _ _)
    | _=>simp [zOk] at h
   | str s=>cases v with
    | string b=>simp only [zOk] at h; rw [of_decide_eq_true h]; exact .fz _ _ (VRf.str (w:=w) (W:=W) b.data.toList)
    | _=>simp [zOk] at h
   | nilp=>cases v with
    | pointer a=>simp only [zOk,Option.isNone_iff_eq_none] at h; rw [h]; exact .fz _ _ .nilp
    | _=>simp [zOk] at h
   | nilm=>cases v with
    | map a=>simp only [zOk,Option.isNone_iff_eq_none] at h; rw [h]; exact .fz _ _ .nilm
    | _=>simp [zOk] at h
   | nilfn=>cases v with
    | nilFunc=>exact .fz _ _ .nilfn
    | _=>simp [zOk] at h
   | nili=>cases v with
    | nilIface=>exact .fz _ _ .nili
    | _=>simp [zOk] at h
   | sl0=>cases v with
    | slice a l c=>simp only [zOk,Bool.and_eq_true,Option.isNone_iff_eq_none,beq_iff_eq] at h; rw [h.1.1,h.1.2,h.2]; exact .sl0
    | _=>simp [zOk] at h
   | agg l=>cases v with
    | agg cs =>
     obtain ⟨h1,h2⟩:=ih.2 l cs.toList (by simpa [zOk] using h)
     exact .agg l cs (by simpa using h1) (fun j p hp=>by
      have:=h2 j p hp
      simpa [Array.getD_eq_getD_getElem?,List.getD_eq_getElem?_getD] using this)
    | _=>simp [zOk] at h
   | _=>cases v <;> simp [zOk] at h
  ·cases l with
   | nil=>cases vs with
    | nil=>exact ⟨rfl,fun j p hp=>by simp at hp⟩
    | cons v vs=>simp [zOkL] at h
   | cons p ps=>cases vs with
    | nil=>simp [zOkL] at h
    | cons v vs =>
     simp only [zOkL,Bool.and_eq_true] at h
     obtain ⟨h1,h2⟩:=ih.2 ps vs h.2
     refine ⟨by simp [h1],fun j q hq=>?_⟩
     cases j with
     | zero=>simp at hq; subst hq; exact ih.1 _ _ h.1
     | succ j=>simpa using h2 j q (by simpa using hq)
def z1ed (u:Option TypeDesc):TD→Prop
 | .other=>True
 | .bool=>u=some .bool
 | .int k=>u=some (.int k)
 | .str=>u=some .string
 | .ptr e=>u=some (.pointer e)
 | .slice e=>u=some (.slice e)
 | .arr n e=>u=some (.array n e)
 | .struct fs=>∃ fields:Array Field,u=some (.struct fields)∧fields.toList.map (fun f=>(f.offset,f.type))=fs
 | .map k e=>u=some (.map k e)
 | .iface m=>∃ ms,u=some (.interface ms)
 | .func=>∃ a b c,u=some (.func a b c)
 | .uptr=>u=some .unsafePointer
 | .tuple ts=>∃ a:Array TypeId,u=some (.tuple a)∧a.toList=ts
structure TIok (P:Program) (t:Nat) (ti:TI):Prop where
 desc:z1ed (P.underlying t) ti.d
 info:ti.d.known=true→∃ i z,P.info? t=some i∧i.size=ti.size∧i.bytes=ti.bytes∧i.zero=some z∧zOk 1000 ti.zero z=true∧z.cells.size=ti.size
 agg:ti.isAgg=true→ti.leaves.length=ti.size
 one:ti.isAgg=false→ti.d.known=true→ti.size=1∧ti.leaves.length=1
def zyn:PV→Value→Prop
 | .int k n,v=>v=.int k n
 | .bool b,v=>v=.bool b
 | .str s,v=>v=.string ⟨s.toArray⟩
 | _,_=>True
structure EqOk (P:Program) (t:Nat) (size:Nat) (ks:List LK):Prop where
 guard:P.eqGuardType P.depth t=false
 eql:∀ (w:World) (a b:List PV) (xs ys:Array Value) (c:Bool),a.length=size→xs.size=size→ys.size=size→(∀ (j:Nat) (p:PV),a[j]?=some p→zyn p (xs.getD j undef)) →
  (∀ (j:Nat) (p:PV),b[j]?=some p→zyn p (ys.getD j undef))→z1n ks a b=some c→(Op.equalIn 10000 t (.agg xs) (.agg ys)).run P w=.ok c w
structure ExtAt (E:Env) (g:Nat) (e:Array Value→Sem Value):Prop where
 at_ : ∃ fn, E.P.funcs[g]? = some fn ∧ (fn.name == "runtime.NumGoroutine") = false ∧ fn.body.isNone = true ∧ Extern.findNext fn = none ∧ Extern.find fn = some e
structure EnvOk (E:Env):Prop where
 names : ∀ (g : Nat) (fn : Func), E.P.funcs[g]? = some fn → (fn.name == "runtime.NumGoroutine") = false
 ti:∀ t,TIok E.P t (E.ti t)
 eqs:∀ t,memN t E.eqs=true→EqOk E.P t (E.ti t).size (E.ti t).leaves
 mt:∀ t name g,findM t name E.mt=some g→∀ (w:World) (v:Value),(method (E.P.types.size+Made.depth) t v name).run E.P w=.ok (g,v) w
 follows:E.P.follows .mixedOrders=true
 same:∀ g,memN g E.same=true→ExtAt E g Extern.AbiNoEscape.same
 mnz:∀ g e,findN g E.mnz=some e→∃ ps t,E.P.underlying t=some (.slice e)∧ExtAt E g (Extern.BytealgMakeNoZero.makeNoZero ps #[t])
section
variable {E:Env} {w0 w:World} {Wx:Nat→Nat→Prop} {bl:zh} {objs:List Obj}
def Does (E:Env) (w0:World) (Wx:Nat→Nat→Prop) (w:World) (bl:zh) (objs:List Obj) (m:Sem Value) (p:PV) (objs':List Obj):Prop :=
 ∃ v w' bl',m.run E.P w=.ok v w'∧Sim w0 Wx w' bl' objs'∧Ext w (WT Wx bl objs) bl objs w' (WT Wx bl' objs') bl' objs'∧VR w' (WT Wx bl' objs') bl' objs' p v
theorem Does.same (S:Sim w0 Wx w bl objs) {m:Sem Value} {p:PV} {v:Value} (hm:m.run E.P w=.ok v w) (hv:VR w (WT Wx bl objs) bl objs p v):Does E w0 Wx w bl objs m p objs :=
 ⟨v,w,bl,hm,S,Ext.refl _ _ _ _,hv⟩
theorem z1lc (op:BinOp) (kd:IntKind) (a b:Int) (p:PV) (t:TypeId) (hop:op≠.shl∧op≠.shr) (h:intK op kd a b some=some p) :
  ∃ v,(binOp op t (.int kd a) (.int kd b)).run E.P w=.ok v w∧VR w (WT Wx bl objs) bl objs p v:=by
 cases op <;> simp only [intK,oJ,reduceCtorEq] at h
 case quo =>
  by_cases hb:b=0
  ·simp [hb] at h
  ·simp only [hb,decide_false,cond_false,oJ] at h
   subst h
   refine ⟨_,?_,.fz _ _ (.int _ _)⟩
   simp [binOp,Op.intDiv,hb]
 case rem =>
  by_cases hb:b=0
  ·simp [hb] at h
  ·simp only [hb,decide_false,cond_false,oJ] at h
   subst h
   refine ⟨_,?_,.fz _ _ (.int _ _)⟩
   simp [binOp,Op.intDiv,hb]
 all_goals
  subst h
  first
   | (refine ⟨_,?_,.fz _ _ (.int _ _)⟩; simp [binOp,Op.intArith,Op.intBits,andI,orI,xorI,andNotI]; done)
   | (refine ⟨_,?_,.fz _ _ (.bool _)⟩; simp [binOp,Op.intCmp]; done)
   | (refine ⟨_,?_,.fz _ _ (.bool _)⟩; by_cases hab:a=b <;> simp [binOp,Op.intCmp,hab])
theorem shl_sound (kd kd':IntKind) (a b:Int) (t:TypeId) (hb:¬ b<0):(binOp .shl t (.int kd a) (.int kd' b)).run E.P w=.ok (.int kd (shlI kd a b)) w:=by
 simp [binOp,Op.shift,hb,shlI]
theorem shr_sound (kd kd':IntKind) (a b:Int) (t:TypeId) (hb:¬ b<0):(binOp .shr t (.int kd a) (.int kd' b)).run E.P w=.ok (.int kd (shrI kd a b)) w:=by
 simp [binOp,Op.shift,hb,shrI]
theorem zq4 (s:List UInt8):(⟨s.toArray⟩:ByteArray).toList=s:=by rw [ByteArray.toList_eq]
theorem z1kj (op:BinOp) (a b:List UInt8) (p:PV) (t:TypeId) (hop:op≠.shl∧op≠.shr) (h:strK op a b some=some p) :
  ∃ v,(binOp op t (.string ⟨a.toArray⟩) (.string ⟨b.toArray⟩)).run E.P w=.ok v w∧VR w (WT Wx bl objs) bl objs p v:=by
 have e:∀ op,op≠.shl→op≠.shr→binOp op t (.string ⟨a.toArray⟩) (.string ⟨b.toArray⟩)=Op.stringOp op ⟨a.toArray⟩ ⟨b.toArray⟩:=by
  intro op h1 h2; cases op <;> first | rfl | exact absurd rfl h1 | exact absurd rfl h2
 rw [e op hop.1 hop.2]
 have eqd:∀ x y:List UInt8,(x == y)=decide (x=y):=by
  intro x y; by_cases hxy:x=y
  ·subst hxy; simp
  ·simp [hxy]
 cases op <;> simp only [strK,oJ] at h <;> first
  | (cases h; done)
  | (subst h; exact ⟨_,by simp only [Op.stringOp,zq4,Sem.run_pure,eqd],.fz _ _ (.bool _)⟩)
  | skip
 case add =>
  simp only [catS] at h
  by_cases hl:a.length+b.length≤2 ^ 62
  ·simp only [hl,decide_true,cond_true,oB,oJ] at h
   subst h
   refine ⟨_,?_,.fz _ _ (.str _)⟩
   simp only [Op.stringOp]
   rw [if_neg]
   ·simp only [Sem.run_pure]
    congr 2
   ·simp only [ByteArray.size,List.size_toArray]
    have:(IntKind.i64.max:Int)=9223372036854775807:=by decide
    rw [this]
    have:(2:Nat) ^ 62=4611686018427387904:=by decide
    omega
  ·simp [hl] at h
theorem unK_sound (op:UnOp) (p q:PV) (v:Value) (hv:VR w (WT Wx bl objs) bl objs p v) (h:unK op p some=some q) :
  ∃ u,(Op.unary op v).run E.P w=.ok u w∧VR w (WT Wx bl objs) bl objs q u:=by
 cases op <;> cases p <;> simp only [unK,oJ,reduceCtorEq] at h
 case neg.int k n =>
  subst h
  have:=hv.frozen_leaf trivial
  cases this
  exact ⟨_,rfl,.fz _ _ (.int _ _)⟩
 case xor.int k n =>
  subst h
  have:=hv.frozen_leaf trivial
  cases this
  refine ⟨_,?_,.fz _ _ (.int _ _)⟩
  cases hs:k.signed <;> simp [Op.unary,Op.intBits,xorI,hs]
 case not.bool b =>
  subst h
  have:=hv.frozen_leaf trivial
  cases this
  exact ⟨_,rfl,.fz _ _ (.bool _)⟩
end
end Dv

namespace Dv
open Go Go.RowKit
theorem zl7 (b o n:Nat):(⟨b,o,none⟩:Addr).add n=⟨b,o+n,none⟩:=by
 unfold Addr.add
 split
 ·subst_vars; rfl
 ·rfl
theorem zch {w:World} {b:Nat} {cs:Array Value} {e:TypeId} {fr:Nat×Nat} (h:w.heap[b]?=some (.cells cs e fr)) (o:Nat):w.cell? ⟨b,o,none⟩=cs[o]?:=by
 unfold World.cell?; simp [h]
section types
variable {E:Env} (hE:EnvOk E)
include hE
theorem und {t:Nat} {d:TD} (h:(E.ti t).d=d):z1ed (E.P.underlying t) d:=h▸(hE.ti t).desc
theorem zfq {t:Nat} (h:(E.ti t).d.known=true):∃ i z,E.P.info? t=some i∧i.size=(E.ti t).size∧i.bytes=(E.ti t).bytes∧i.zero=some z∧zOk 1000 (E.ti t).zero z=true∧z.cells.size=(E.ti t).size:=(hE.ti t).info h
theorem z7l {t:Nat} (w:World) (h:(E.ti t).d.known=true):(Go.sizeOf t).run E.P w=Result.ok (E.ti t).size w:=by
 obtain ⟨i,z,hi,hs,_⟩:=zfq hE h
 simp [Go.sizeOf,typeInfo,hi,hs]
theorem zx7 {t:Nat} (w:World) (h:(E.ti t).d.known=true):∃ z,(zeroValue t).run E.P w=.ok z w∧zOk 1000 (E.ti t).zero z=true:=by
 obtain ⟨i,z,hi,_,_,hz,hk,_⟩:=zfq hE h
 exact ⟨z,by simp [zeroValue,typeInfo,hi,hz],hk⟩
theorem z19v {t:Nat} (w:World) (h:(E.ti t).d.known=true):(isAgg t).run E.P w=.ok (E.ti t).isAgg w:=by
 have hd:=(hE.ti t).desc
 unfold isAgg
 cases hdd:(E.ti t).d <;> rw [hdd] at h hd <;> (try simp only [z1ed] at hd) <;> first
  | (simp [TD.known] at h; done)
  | (simp [underlying,hd,TI.isAgg,hdd]; done)
  | (obtain ⟨x,hd,_⟩:=hd; simp [underlying,hd,TI.isAgg,hdd]; done)
  | (obtain ⟨x,hd⟩:=hd; simp [underlying,hd,TI.isAgg,hdd]; done)
  | (obtain ⟨x,y,z,hd⟩:=hd; simp [underlying,hd,TI.isAgg,hdd]; done)
end types
section
variable {w:World} {W:Nat→Nat→Prop} {bl:zh} {objs:List Obj}
theorem VRf.sl_nil {s s':Nat} {v:Value} (h:VRf w W (.sl s []) v):VRf w W (.sl s' []) v:=by
 cases h with
 | slemp _ a cap=>exact .slemp _ a cap
 | sl _ _ b o cap f hc hs hcell hr=>exact .slemp _ _ _
theorem z17w {k:LK} {p:PV} {v:Value} (hk:zel k p=true) (h:VRf w W p v):VR w W bl objs (zu1 k p) v:=by
 cases k with
 | int k =>
  cases p <;> simp only [zel,Bool.false_eq_true] at hk
  rw [zfr hk]; exact .fz _ _ h
 | bool=>cases p <;> simp only [zel,Bool.false_eq_true] at hk; exact .fz _ _ h
 | str=>cases p <;> simp only [zel,Bool.false_eq_true] at hk; exact .fz _ _ h
 | slice s =>
  cases p <;> simp only [zel,Bool.false_eq_true] at hk
  simp only [Bool.or_eq_true,beq_iff_eq,List.isEmpty_iff] at hk
  rcases hk with rfl | rfl
  ·exact .fz _ _ h
  ·exact .fz _ _ h.sl_nil
 | other=>exact .opq0 _ _ (by simpa [zel] using hk) h
theorem z83:∀ {ks:List LK} {l:List PV},z21 ks l=true→ks.length=l.length∧∀ (j:Nat) (k:LK) (v:PV),ks[j]?=some k→l[j]?=some v→zel k v=true
 | [],[],_=>⟨rfl,fun j k v h=>by simp at h⟩
 | [],_::_,h=>by simp [z21] at h
 | _::_,[],h=>by simp [z21] at h
 | k::ks,v::vs,h=>by
  simp only [z21,Bool.and_eq_true] at h
  obtain ⟨h1,h2⟩:=z83 h.2
  refine ⟨by simp [h1],fun j k' v' hk hv=>?_⟩
  cases j with
  | zero=>simp at hk hv; subst hk; subst hv; exact h.1
  | succ j=>exact h2 j k' v' (by simpa using hk) (by simpa using hv)
theorem zk4:∀ (ks:List LK) (n:Nat) (l:List PV),(z10n ks n (.agg l)).length=ks.length ∧
  ∀ (j:Nat) (p:PV),(z10n ks n (.agg l))[j]?=some p→∃ k,ks[j]?=some k∧p=zu1 k (nthD .undef l (n+j))
 | [],n,l=>⟨rfl,fun j p h=>by simp [z10n] at h⟩
 | k::ks,n,l=>by
  obtain ⟨h1,h2⟩:=zk4 ks (n+1) l
  refine ⟨by simp [z10n,h1],fun j p h=>?_⟩
  cases j with
  | zero=>simp [z10n,PV.nth] at h; exact ⟨k,rfl,h.symm⟩
  | succ j =>
   obtain ⟨k',hk,hp⟩:=h2 j p (by simpa [z10n] using h)
   exact ⟨k',by simpa using hk,by rw [hp]; congr 2; omega⟩
theorem z1fu {E:Env} (hE:EnvOk E) (t:Nat) (hd:(E.ti t).d.known=true) {sub:List PV} (hk:z21 (E.ti t).leaves sub=true) (g:Nat→Value)
  (hr:∀ (j:Nat) (q:PV),sub[j]?=some q→VRf w W q (g j)) :
  VR w W bl objs (z6l (E.ti t) (bif (E.ti t).isAgg then .agg sub else nthD .undef sub 0)) (if (E.ti t).isAgg then .agg ((List.range (E.ti t).size).map g).toArray else g 0):=by
 obtain ⟨hlen,hok⟩:=z83 hk
 cases ha:(E.ti t).isAgg with
 | true =>
  have hsz:=(hE.ti t).agg ha
  unfold z6l
  simp only [ha,cond_true,if_true]
  obtain ⟨h1,h2⟩:=zk4 (E.ti t).leaves 0 sub
  refine .agg _ _ (by simp [h1,hsz]) (fun j p hp=>?_)
  obtain ⟨k,hkj,rfl⟩:=h2 j p hp
  have hj:j<(E.ti t).size:=by rw [← hsz]; exact (List.getElem?_eq_some_iff.1 hkj).1
  have hjs:j<sub.length:=by omega
  have hg:sub[j]?=some sub[j]:=List.getElem?_eq_getElem hjs
  have:nthD .undef sub (0+j)=sub[j]:=by rw [z4l]; simp [hjs]
  rw [this]
  have hv:(((List.range (E.ti t).size).map g).toArray).getD j undef=g j:=by simp [Array.getD_eq_getD_getElem?,hj]
  rw [hv]
  exact z17w (hok j k _ hkj hg) (hr j _ hg)
 | false =>
  have hone:=(hE.ti t).one ha hd
  unfold z6l
  simp only [ha,cond_false,Bool.false_eq_true,if_false]
  match hl:(E.ti t).leaves,hone.2,sub,hlen,hok,hr with
  | [k],_,[q],_,hok,hr =>
   simp only [nthD]
   exact z17w (hok 0 k q rfl rfl) (hr 0 q rfl)
end
section
variable {E:Env} (hE:EnvOk E) {w0 w:World} {Wx:Nat→Nat→Prop} {bl:zh} {objs:List Obj}
include hE
theorem z13s {t:Nat} (hd:(E.ti t).d.known=true) (b o:Nat) (g:Nat→Value) (h:∀ j,j<(E.ti t).size→w.cell? ⟨b,o+j,none⟩=some (g j)) :
  (loadVar t ⟨b,o,none⟩).run E.P w=.ok (if (E.ti t).isAgg then .agg ((List.range (E.ti t).size).map g).toArray else g 0) w:=by
 unfold loadVar
 simp only [Sem.run_bind,z19v hE w hd,Result.andThen_ok]
 cases ha:(E.ti t).isAgg with
 | true =>
  simp only [if_true,Sem.run_bind,z7l hE w hd,Result.andThen_ok]
  rw [run_loadCells w ⟨b,o,none⟩ (E.ti t).size g (fun j hj=>by rw [zl7]; exact h j hj)]
  rfl
 | false =>
  have hone:=(hE.ti t).one ha hd
  have h0:=h 0 (by omega)
  simp only [Bool.false_eq_true,if_false,run_load]
  rw [Nat.add_zero] at h0
  rw [h0]
theorem zyj (t:Nat) (hd:(E.ti t).d.known=true) {W:Nat→Nat→Prop} {l:List PV} {off b o:Nat} {p:PV} (g:Nat→Value)
  (hg:∀ (j:Nat) (q:PV),l[j]?=some q→w.cell? ⟨b,o+j,none⟩=some (g j)∧VR w W bl objs q (g j)) (h:zzy (E.ti t) l off=some p) :
  ∃ v,(loadVar t ⟨b,o+off,none⟩).run E.P w=.ok v w∧VR w W bl objs p v:=by
 unfold zzy at h
 by_cases hle:off+(E.ti t).size≤l.length
 ·rw [Nat.ble_eq_true_of_le hle] at h
  simp only [cond_true,oJ] at h
  refine ⟨_,z13s hE hd b (o+off) (fun j=>g (off+j)) (fun j hj=>?_),?_⟩
  ·have hlt:off+j<l.length:=by omega
   have:=(hg (off+j) _ (List.getElem?_eq_getElem hlt)).1
   rw [← Nat.add_assoc] at this
   exact this
  ·subst h
   cases ha:(E.ti t).isAgg with
   | true =>
    simp only [cond_true,if_true]
    refine .agg _ _ (by simp; omega) (fun j q hq=>?_)
    have hj:j<(E.ti t).size:=by have:=z3j hq; simp at this; omega
    rw [List.getElem?_take_of_lt hj,List.getElem?_drop] at hq
    have:=(hg (off+j) q hq).2
    simp only [Array.getD_eq_getD_getElem?,List.getElem?_toArray,List.getElem?_map,List.getElem?_range hj,Option.map_some,Option.getD_some]
    exact this
   | false =>
    have hone:=(hE.ti t).one ha hd
    simp only [cond_false,Bool.false_eq_true,if_false,Nat.add_zero]
    have hlt:off<l.length:=by omega
    have h1:=(hg off _ (List.getElem?_eq_getElem hlt)).2
    rw [z4l,List.getElem?_eq_getElem hlt]
    exact h1
 ·have:Nat.ble (off+(E.ti t).size) l.length=false:=by
   cases hb:Nat.ble (off+(E.ti t).size) l.length with
   | false=>rfl
   | true=>exact absurd (Nat.le_of_ble_eq_true hb) hle
  rw [this] at h
  simp at h
theorem zzk (t:Nat) (hd:(E.ti t).d.known=true) {cells:List PV} {off b o:Nat} {p:PV} (g:Nat→Value)
  (hg:∀ (j:Nat) (q:PV),cells[j]?=some q→w.cell? ⟨b,o+j,none⟩=some (g j)∧VRf w (WT Wx bl objs) q (g j))
  (hk:z21 (E.ti t).leaves ((cells.drop off).take (E.ti t).size)=true)
  (hp:p=z6l (E.ti t) (bif (E.ti t).isAgg then .agg ((cells.drop off).take (E.ti t).size) else nthD .undef ((cells.drop off).take (E.ti t).size) 0)) :
  ∃ v,(loadVar t ⟨b,o+off,none⟩).run E.P w=.ok v w∧VR w (WT Wx bl objs) bl objs p v:=by
 obtain ⟨hlen,_⟩:=z83 hk
 have hsz:(E.ti t).leaves.length=(E.ti t).size:=by
  cases ha:(E.ti t).isAgg with
  | true=>exact (hE.ti t).agg ha
  | false=>have:=(hE.ti t).one ha hd; omega
 have hl:((cells.drop off).take (E.ti t).size).length=(E.ti t).size:=by omega
 have hsub:∀ (j:Nat) (q:PV),((cells.drop off).take (E.ti t).size)[j]?=some q→cells[off+j]?=some q:=by
  intro j q hq
  have hj:j<(E.ti t).size:=by have:=z3j hq; omega
  rwa [List.getElem?_take_of_lt hj,List.getElem?_drop] at hq
 refine ⟨_,z13s hE hd b (o+off) (fun j=>g (off+j)) (fun j hj=>?_),?_⟩
 ·have hlt:j<((cells.drop off).take (E.ti t).size).length:=by omega
  have:=(hg (off+j) _ (hsub j _ (List.getElem?_eq_getElem hlt))).1
  rw [← Nat.add_assoc] at this
  exact this
 ·subst hp
  exact z1fu hE t hd hk (fun j=>g (off+j)) (fun j q hq=>(hg _ _ (hsub j q hq)).2)
theorem rdT_sound (t:Nat) (hd:(E.ti t).d.known=true) {l:List PV} {k off b o s:Nat} {x:PV} {g:Nat→Value}
  (hg:∀ (p:PV),l[k]?=some p→∀ (j:Nat) (q:PV),p.cellsL[j]?=some q→w.cell? ⟨b,o+k*s+j,none⟩=some (g j)∧VRf w (WT Wx bl objs) q (g j))
  (h:rdT (E.ti t) l k off=some x):∃ v,(loadVar t ⟨b,o+k*s+off,none⟩).run E.P w=.ok v w∧VR w (WT Wx bl objs) bl objs (z6l (E.ti t) x) v:=by
 unfold rdT at h
 cases hk:l[k]? with
 | none=>rw [hk] at h; cases h
 | some p =>
  rw [hk] at h
  simp only at h
  cases hok:z21 (E.ti t).leaves ((p.cellsL.drop off).take (E.ti t).size) with
  | false=>rw [hok] at h; cases h
  | true =>
   rw [hok] at h
   simp only [cond_true,oJ] at h
   exact zzk hE t hd g (hg p hk) hok (by rw [← h])
omit hE in
theorem zyi (S:Sim w0 Wx w bl objs) {i e:Nat} {l:List PV} {f:Bool} (hi:i<objs.length) (ho:nthD .dead objs i=.cells e l f) :
  ∃ b cs fr,bl[i]?=some (some (b,0))∧w.heap[b]?=some (.cells cs e fr)∧cs.size=l.length∧NoFz cs.size fr ∧
   ∀ (j:Nat) (p:PV),l[j]?=some p→z19s p∧∃ v,cs[j]?=some v∧VR w (WT Wx bl objs) bl objs p v:=by
 have:=S.obj i hi
 unfold ORel at this
 rw [ho] at this
 exact this
omit hE in
theorem zem {i:Nat} {o:Obj} (ho:nthD .dead objs i=o) (hne:o≠.dead):i<objs.length:=by
 rcases Nat.lt_or_ge i objs.length with h | h
 ·exact h
 ·rw [zhi _ _ _ h] at ho; exact absurd ho.symm hne
omit hE in
theorem zdo (S:Sim w0 Wx w bl objs) {i e s fz:Nat} {l:List PV} {cap:Option Nat} (hi:i<objs.length) (ho:nthD .dead objs i=.row e s l fz cap) {b o:Nat} (hb:bl[i]?=some (some (b,o))) :
  ∃ cs fr,w.heap[b]?=some (.cells cs e fr)∧o+l.length*s≤cs.size∧NoFz cs.size fr ∧
   ∀ (k:Nat) (p:PV),l[k]?=some p→p.cellsL.length=s∧∀ (j:Nat) (q:PV),p.cellsL[j]?=some q→q.scalar=true∧∃ v,cs[o+k*s+j]?=some v∧VRf w (WT Wx bl objs) q v:=by
 have:=S.obj i hi
 unfold ORel at this
 rw [ho] at this
 rcases this with ⟨h,_⟩ | ⟨b',o',cs,fr,hb',h1,h2,h3,h4⟩
 ·rw [hb] at h; cases h
 ·rw [hb] at hb'
  simp at hb'
  obtain ⟨rfl,rfl⟩:=hb'
  exact ⟨cs,fr,h1,h2,h3,h4⟩
theorem z17t (S:Sim w0 Wx w bl objs) (t:Nat) {a p:PV} {va:Value} (ha:VR w (WT Wx bl objs) bl objs a va)
  (h:loadK E t objs a some=some p):∃ v,(Instr.loadAt t va).run E.P w=.ok v w∧VR w (WT Wx bl objs) bl objs p v:=by
 have run:∀ x:Addr,(Instr.loadAt t (.pointer (some x))).run E.P w=(loadVar t x).run E.P w:=fun x=>rfl
 unfold loadK at h
 simp only at h
 cases hd:(E.ti t).d.known with
 | false=>rw [hd] at h; simp at h
 | true =>
 rw [hd] at h
 simp only [Bool.not_true,cond_false] at h
 cases a with
 | ptr i off =>
  simp only at h
  cases ho:nthD .dead objs i with
  | cells e l f =>
   rw [ho] at h
   simp only at h
   have hi:=zem ho (by simp)
   obtain ⟨b,cs,fr,hb,hheap,hsz,_,hel⟩:=zyi S hi ho
   cases hc:zzy (E.ti t) l off with
   | none=>rw [hc] at h; cases h
   | some q =>
    rw [hc] at h
    simp only [oJ] at h
    subst h
    have hva:va=.pointer (some ⟨b,0+off,none⟩):=by
     cases ha with
     | fz _ _ h=>cases h
     | dead p v j _ hr _ hdd=>simp only [refOf,oJ] at hr; subst hr; rw [ho] at hdd; cases hdd
     | ptr j _ b' o' hj hb' =>
      rw [hb] at hb'
      simp at hb'
      obtain ⟨rfl,rfl⟩:=hb'
      rfl
    subst hva
    rw [run]
    exact zyj hE t hd (fun j=>cs.getD j undef) (fun j q hq=>by
     obtain ⟨_,v,hv,hr⟩:=hel j q hq
     rw [Nat.zero_add,zch hheap]
     simp only [Array.getD_eq_getD_getElem?,hv,Option.getD_some]
     exact ⟨trivial,hr⟩) hc
  | row e s l fz cap =>
   rw [ho] at h
   simp only at h
   cases off with
   | succ n=>simp at h
   | zero =>
    simp only at h
    cases hag:(E.ti t).isAgg&&(s == 1) with
    | false=>rw [hag] at h; simp at h
    | true =>
     rw [hag] at h
     simp only [cond_true] at h
     simp only [Bool.and_eq_true,beq_iff_eq] at hag
     obtain ⟨hag,rfl⟩:=hag
     unfold rdAll at h
     cases hok:z21 (E.ti t).leaves l with
     | false=>rw [hok] at h; simp at h
     | true =>
      rw [hok] at h
      simp only [cond_true,oB,oJ] at h
      subst h
      have hi:=zem ho (by simp)
      cases ha with
      | fz _ _ h=>cases h
      | dead p v j _ hr _ hdd=>simp only [refOf,oJ] at hr; subst hr; rw [ho] at hdd; cases hdd
      | ptr j _ b o hj hb =>
       obtain ⟨cs,fr,hheap,hsz,_,hel⟩:=zdo S hi ho hb
       rw [run]
       have hlen:=(z83 hok).1
       have hsz':=(hE.ti t).agg hag
       refine zzk hE t hd (cells:=l) (off:=0) (g:=fun j=>cs.getD (o+j) undef) ?_ ?_ ?_
       ·intro j q hq
        obtain ⟨h1,h2⟩:=hel j q hq
        have hq1:q.cellsL=[q]:=by
         have hleaf:∃ k,zel k q=true:=by
          have hj:j<(E.ti t).leaves.length:=by rw [hlen]; exact z3j hq
          exact ⟨_,(z83 hok).2 j _ q (List.getElem?_eq_getElem hj) hq⟩
         obtain ⟨k,hk⟩:=hleaf
         cases q <;> first | rfl | (cases k <;> simp [zel,okOther] at hk)
        obtain ⟨_,v,hv,hr⟩:=h2 0 q (by rw [hq1]; rfl)
        rw [Nat.mul_one,Nat.add_zero] at hv
        rw [zch hheap]
        simp only [Array.getD_eq_getD_getElem?,hv,Option.getD_some]
        exact ⟨trivial,hr⟩
       ·rw [List.drop_zero,List.take_of_length_le (by omega)]; exact hok
       ·rw [hag,List.drop_zero,List.take_of_length_le (by omega)]; rfl
  | _=>rw [ho] at h; simp at h
 | rptr i kk off =>
  simp only at h
  cases ho:nthD .dead objs i with
  | row e s l fz cap =>
   rw [ho] at h
   simp only at h
   have hi:=zem ho (by simp)
   cases hrd:rdT (E.ti t) l kk off with
   | none=>rw [hrd] at h; cases h
   | some x =>
    rw [hrd] at h
    simp only [oB,oJ] at h
    subst h
    cases ha with
    | fz _ _ h=>cases h
    | dead p v j _ hr _ hdd=>simp only [refOf,oJ] at hr; subst hr; rw [ho] at hdd; cases hdd
    | rptr j _ _ b o s' fz' l' cap' hj ho' hb =>
     rw [ho] at ho'; cases ho'
     obtain ⟨cs,fr,hheap,hsz,_,hel⟩:=zdo S hi ho hb
     rw [run]
     exact rdT_sound hE t hd (g:=fun j=>cs.getD (o+kk*s+j) undef) (fun p hp j q hq=>by
      obtain ⟨_,v,hv,hr⟩:=(hel kk p hp).2 j q hq
      rw [zch hheap]
      simp only [Array.getD_eq_getD_getElem?,hv,Option.getD_some]
      exact ⟨trivial,hr⟩) hrd
  | _=>rw [ho] at h; simp at h
 | ref l off =>
  simp only at h
  cases hc:zzy (E.ti t) l off with
  | none=>rw [hc] at h; cases h
  | some q =>
   rw [hc] at h
   simp only [oJ] at h
   subst h
   cases ha.frozen_leaf trivial with
   | ref _ _ b o f hcell hr =>
    rw [run]
    exact zyj hE t hd f (fun j q hq=>⟨(hcell j q hq).1,.fz _ _ (hr j q hq)⟩) hc
 | opq v off =>
  simp only at h
  cases hrd:rdP (E.ti t) v off with
  | none=>rw [hrd] at h; cases h
  | some x =>
   rw [hrd] at h
   simp only [oB,oJ] at h
   subst h
   unfold rdP at hrd
   cases v with
   | ref cells o1 =>
    simp only at hrd
    cases hok:z21 (E.ti t).leaves ((cells.drop (o1+off)).take (E.ti t).size) with
    | false=>rw [hok] at hrd; simp at hrd
    | true =>
     rw [hok] at hrd
     simp only [cond_true,oJ] at hrd
     have hva:∃ (b o:Nat) (f:Nat→Value),va=.pointer (some ⟨b,o+(o1+off),none⟩) ∧
       (∀ (j:Nat) (q:PV),cells[j]?=some q→w.cell? ⟨b,o+j,none⟩=some (f j)∧VRf w (WT Wx bl objs) q (f j)):=by
      cases ha with
      | fz _ _ h=>cases h with | opq0 _ _ _ h=>cases h with
       | ref _ _ b o f hcell hr=>exact ⟨b,o,f,rfl,fun j q hq=>⟨(hcell j q hq).1,hr j q hq⟩⟩
      | dead p v j _ hr _ hdd=>simp [refOf] at hr
      | opq0 _ _ _ h=>cases h with
       | ref _ _ b o f hcell hr=>exact ⟨b,o,f,rfl,fun j q hq=>⟨(hcell j q hq).1,hr j q hq⟩⟩
      | opq _ b o' _ _ h =>
       generalize hx:Value.pointer (some ⟨b,o',none⟩)=x at h
       cases h with
       | ref _ _ b2 o f hcell hr =>
        simp at hx
        obtain ⟨rfl,rfl⟩:=hx
        exact ⟨b,o,f,by rw [Nat.add_assoc],fun j q hq=>⟨(hcell j q hq).1,hr j q hq⟩⟩
     obtain ⟨b,o,f,rfl,hf⟩:=hva
     rw [run]
     exact zzk hE t hd f hf hok (by rw [← hrd])
   | _=>simp at hrd
 | _=>simp at h
end
end Dv

namespace Dv
open Go Go.RowKit
def z45 (cs:Array Value) (x:Nat):List Value→Array Value
 | []=>cs
 | v::vs=>z45 (cs.setIfInBounds x v) (x+1) vs
@[simp] theorem z82:∀ (vs:List Value) (cs:Array Value) (x:Nat),(z45 cs x vs).size=cs.size
 | [],_,_=>rfl
 | v::vs,cs,x=>by rw [z45,z82 vs]; simp
theorem z3e:∀ (vs:List Value) (cs:Array Value) (x j:Nat),j<x∨x+vs.length≤j→(z45 cs x vs)[j]?=cs[j]?
 | [],_,_,_,_=>rfl
 | v::vs,cs,x,j,h=>by
  rw [z45,z3e vs _ (x+1) j (by simp at h; omega)]
  rw [Array.getElem?_setIfInBounds_ne (by simp at h; omega)]
theorem zaq:∀ (vs:List Value) (cs:Array Value) (x j:Nat),j<vs.length→x+vs.length≤cs.size→(z45 cs x vs)[x+j]?=vs[j]?
 | [],_,_,_,h,_=>by simp at h
 | v::vs,cs,x,j,h,hs=>by
  rw [z45]
  cases j with
  | zero =>
   rw [z3e vs _ (x+1) (x+0) (by omega)]
   simp at hs
   simp [Array.getElem?_setIfInBounds]
   omega
  | succ j =>
   have:=zaq vs (cs.setIfInBounds x v) (x+1) j (by simpa using h) (by simp at hs ⊢; omega)
   rw [show x+(j+1)=x+1+j by omega,this]
   simp
def wset (w:World) (b:Nat) (cs:Array Value) (e:TypeId) (fr:Nat×Nat):World:={ w with heap:=w.heap.setIfInBounds b (.cells cs e fr) }
theorem z1v {w:World} {b:Nat} {cs cs':Array Value} {e:TypeId} {fr:Nat×Nat} (h:w.heap[b]?=some (.cells cs e fr)):(wset w b cs' e fr).heap[b]?=some (.cells cs' e fr):=by
 have:b<w.heap.size:=by
  rcases Nat.lt_or_ge b w.heap.size with h' | h'
  ·exact h'
  ·rw [Array.getElem?_eq_none h'] at h; cases h
 simp [wset,Array.getElem?_setIfInBounds,this]
theorem z57 (w:World) {b b':Nat} (cs':Array Value) (e:TypeId) (fr:Nat×Nat) (h:b≠b'):(wset w b cs' e fr).heap[b']?=w.heap[b']?:=by
 simp [wset,Array.getElem?_setIfInBounds_ne h]
theorem z131 (w:World) (b:Nat) (cs':Array Value) (e:TypeId) (fr:Nat×Nat):(wset w b cs' e fr).heap.size=w.heap.size:=by simp [wset]
theorem z1cv {w:World} {b x:Nat} {cs:Array Value} {e:TypeId} {fr:Nat×Nat} (h:w.heap[b]?=some (.cells cs e fr)) (v:Value) :
  w.setCell ⟨b,x,none⟩ v=wset w b (cs.setIfInBounds x v) e fr:=by
 have hlt:b<w.heap.size:=by
  rcases Nat.lt_or_ge b w.heap.size with h' | h'
  ·exact h'
  ·rw [Array.getElem?_eq_none h'] at h; cases h
 unfold World.setCell wset
 congr 1
 apply Array.ext_getElem?
 intro i
 simp only [Array.getElem?_modify,Array.getElem?_setIfInBounds]
 split
 ·rename_i hi
  subst hi
  rw [h]
  simp
 ·rfl
theorem wset_wset (w:World) (b:Nat) (cs cs':Array Value) (e:TypeId) (fr:Nat×Nat):wset (wset w b cs e fr) b cs' e fr=wset w b cs' e fr:=by
 unfold wset
 congr 1
 apply Array.ext_getElem?
 intro i
 simp only [Array.getElem?_setIfInBounds,Array.size_setIfInBounds]
 split <;> rfl
theorem z79 {P:Program} (b o:Nat):∀ (vs:List Value) (i:Nat) (w:World) (cs:Array Value) (e:TypeId) (fr:Nat×Nat),w.heap[b]?=some (.cells cs e fr)→NoFz cs.size fr →
  o+i+vs.length≤cs.size→(∀ v∈vs,v.oneCell'=true)→(storeCells ⟨b,o,none⟩ vs i).run P w=.ok () (wset w b (z45 cs (o+i) vs) e fr)
 | [],i,w,cs,e,fr,h,_,_,_=>by
  simp only [storeCells,Sem.run_pure,z45]
  congr 1
  have hlt:b<w.heap.size:=by
   rcases Nat.lt_or_ge b w.heap.size with h' | h'
   ·exact h'
   ·rw [Array.getElem?_eq_none h'] at h; cases h
  unfold wset
  have:w.heap.setIfInBounds b (.cells cs e fr)=w.heap:=by
   apply Array.ext_getElem?
   intro j
   simp only [Array.getElem?_setIfInBounds]
   split
   ·rename_i hj; subst hj; rw [h]
   ·rfl
  rw [this]
 | v::vs,i,w,cs,e,fr,h,hnf,hle,hv=>by
  simp only [storeCells,Sem.run_bind,zl7]
  have hlt:o+i<cs.size:=by simp at hle; omega
  have hcell:w.cell? ⟨b,o+i,none⟩=some cs[o+i]:=by rw [zch h]; exact Array.getElem?_eq_getElem hlt
  have hfz:w.frozen? ⟨b,o+i,none⟩=false:=by
   unfold World.frozen?
   simp only [h]
   have:=hnf (o+i) hlt
   simpa using this
  rw [run_store P w _ v .plain (hv v (by simp)),hcell]
  simp only [hfz,Bool.false_eq_true,if_false,Result.andThen_ok]
  rw [z1cv h]
  rw [z79 b o vs (i+1) _ (cs.setIfInBounds (o+i) v) e fr (z1v h) (by simpa using hnf) (by simp at hle ⊢; omega) (fun u hu=>hv u (by simp [hu]))]
  rw [wset_wset]
  rfl
section
variable {w:World} {W:Nat→Nat→Prop} {bl:zh} {objs:List Obj}
theorem z146 {p:PV} {v:Value} (hk:okOther p=true) (h:VRf w W p v):v.oneCell'=true:=by
 cases h <;> first | rfl | simp [okOther] at hk
theorem zk5 {p:PV} {v:Value} (h:VR w W bl objs p v) (hs:p.scalar=true):v.oneCell'=true:=by
 cases h with
 | fz _ _ h=>cases h <;> first | rfl | (exact z146 (by assumption) (by assumption)) | simp [PV.scalar] at hs
 | opq0 _ _ hk h=>exact z146 hk h
 | dead _ _ _ hv=>exact hv
 | agg=>simp [PV.scalar] at hs
 | tuple=>simp [PV.scalar] at hs
 | _=>rfl
theorem z1df {v:Value} (h:v.oneCell'=true):v.cells=#[v]:=by cases v <;> first | rfl | simp [Value.oneCell'] at h
theorem zb8 {p:PV} {v:Value} (h:VR w W bl objs p v) (hs:allB PV.scalar p.cellsL=true) :
  v.cells.size=p.cellsL.length∧(∀ (j:Nat) (q:PV),p.cellsL[j]?=some q→∃ u,v.cells[j]?=some u∧u.oneCell'=true∧VR w W bl objs q u):=by
 have one:p.cellsL=[p]→v.cells.size=p.cellsL.length∧(∀ (j:Nat) (q:PV),p.cellsL[j]?=some q→∃ u,v.cells[j]?=some u∧u.oneCell'=true∧VR w W bl objs q u):=by
  intro h1
  rw [h1] at hs ⊢
  have hps:p.scalar=true:=zk hs p (by simp)
  have hv:=zk5 h hps
  rw [z1df hv]
  refine ⟨rfl,fun j q hq=>?_⟩
  cases j with
  | zero=>simp at hq; subst hq; exact ⟨v,rfl,hv,h⟩
  | succ j=>simp at hq
 cases p with
 | agg l =>
  have key:∀ cs:Array Value,l.length=cs.size→(∀ (j:Nat) (q:PV),l[j]?=some q→VR w W bl objs q (cs.getD j undef)) →
    (Value.agg cs).cells.size=l.length∧(∀ (j:Nat) (q:PV),l[j]?=some q→∃ u,(Value.agg cs).cells[j]?=some u∧u.oneCell'=true∧VR w W bl objs q u):=by
   intro cs hl hx
   refine ⟨hl.symm,fun j q hq=>?_⟩
   have hj:j<cs.size:=by rw [← hl]; exact z3j hq
   have h1:=hx j q hq
   have h2:cs.getD j undef=cs[j]:=by simp [Array.getD_eq_getD_getElem?,hj]
   rw [h2] at h1
   exact ⟨cs[j],Array.getElem?_eq_getElem hj,zk5 h1 (zk hs q (List.mem_of_getElem? hq)),h1⟩
  cases h with
  | fz _ _ h=>cases h with | agg _ cs hl hx=>exact key cs hl (fun j q hq=>.fz _ _ (hx j q hq))
  | agg _ cs hl hx=>exact key cs hl hx
  | dead _ _ _ _ hr=>simp [refOf] at hr
 | _=>exact one rfl
theorem z9k:∀ (vs l:List PV) (o:Nat),(za5 l o vs).length=l.length
 | [],_,_=>rfl
 | v::vs,l,o=>by rw [za5,z9k vs]; simp
theorem zhh:∀ (vs l:List PV) (o j:Nat),j<o∨o+vs.length≤j→(za5 l o vs)[j]?=l[j]?
 | [],_,_,_,_=>rfl
 | v::vs,l,o,j,h=>by
  rw [za5,zhh vs _ (o+1) j (by simp at h; omega),z2z,List.getElem?_set_ne (by simp at h; omega)]
theorem zs8:∀ (vs l:List PV) (o j:Nat),j<vs.length→o+vs.length≤l.length→(za5 l o vs)[o+j]?=vs[j]?
 | [],_,_,_,h,_=>by simp at h
 | v::vs,l,o,j,h,hs=>by
  rw [za5]
  cases j with
  | zero =>
   rw [zhh vs _ (o+1) (o+0) (by omega),z2z]
   simp at hs
   rw [Nat.add_zero,List.getElem?_set_self (by omega)]; rfl
  | succ j =>
   have:=zs8 vs (setN l o v) (o+1) j (by simpa using h) (by simp at hs ⊢; omega)
   rw [show o+(j+1)=o+1+j by omega,this]
   simp
end
theorem zvx {objs:List Obj} {i:Nat} (h:¬ alive objs i):nthD .dead objs i=.dead:=by
 unfold alive at h
 cases ho:nthD .dead objs i <;> rw [ho] at h <;> first | rfl | exact absurd trivial h
theorem ORel.of_dead {w:World} {W:Nat→Nat→Prop} {bl:zh} {objs:List Obj} {i:Nat} (h:nthD .dead objs i=.dead):ORel w W bl objs i:=by
 unfold ORel; rw [h]; trivial
theorem zap:∀ {n:Nat} {l l':List PV} {o o':List Obj},purifyL n o l=some (l',o')→∀ (j:Nat) (q':PV),l'[j]?=some q'→∃ m q o1 o2,l[j]?=some q∧purify m o1 q=some (q',o2)
 | 0,_,_,_,_,h,_,_,_=>by simp [purifyL] at h
 | n+1,[],l',o,o',h,j,q',hq=>by
  simp only [purifyL,oJ,pJ] at h
  obtain ⟨rfl,rfl⟩:=h
  simp at hq
 | n+1,p::ps,l',o,o',h,j,q',hq=>by
  simp only [purifyL] at h
  cases h1:purify n o p with
  | none=>rw [h1] at h; cases h
  | some y =>
   obtain ⟨p',o1⟩:=y
   rw [h1] at h
   simp only at h
   cases h2:purifyL n o1 ps with
   | none=>rw [h2] at h; cases h
   | some z =>
    obtain ⟨ps',o2⟩:=z
    rw [h2] at h
    simp only [oJ,pJ] at h
    obtain ⟨rfl,rfl⟩:=h
    cases j with
    | zero=>simp at hq; subst hq; exact ⟨n,p,o,o1,rfl,h1⟩
    | succ j=>exact zap h2 j q' (by simpa using hq)
theorem z81 {w:World} {W W':Nat→Nat→Prop} {bl:zh} {objs:List Obj} {n:Nat} {o o':List Obj} {p p':PV} {v:Value} (h:purify n o p=some (p',o')) (hp:p.scalar=true)
  (hv:VR w W bl objs p v) (hv':VRf w W' p' v):p'.scalar=true:=by
 have hone:=zk5 hv hp
 cases p' with
 | undef =>
  exfalso
  cases n with
  | zero=>simp [purify] at h
  | succ n =>
   cases p with
   | undef=>simp [PV.scalar] at hp
   | opq x off =>
    cases off with
    | succ k=>simp [purify] at h
    | zero =>
     simp only [purify,oJ,pJ] at h
     obtain ⟨rfl,_⟩:=h
     cases hv with
     | fz _ _ h=>cases h with | opq0 _ _ hk _=>simp [okOther] at hk
     | opq0 _ _ hk _=>simp [okOther] at hk
     | opq _ _ _ _ hk _=>simp [okOther] at hk
     | dead _ _ _ _ hr=>simp [refOf] at hr
   | iface t x=>simp only [purify] at h; split at h <;> simp at h
   | func f a b=>simp only [purify] at h; cases hy:isYield f <;> rw [hy] at h <;> first | (cases h; done) | (simp only [cond_false] at h; split at h <;> (try split at h) <;> simp at h)
   | agg l=>simp only [purify] at h; split at h <;> simp at h
   | tuple l=>simp only [purify] at h; split at h <;> simp at h
   | lall i=>simp only [purify] at h; split at h <;> simp at h
   | mapr i=>simp only [purify] at h; split at h <;> simp at h
   | lsl i a b c=>simp only [purify] at h; split at h <;> simp at h
   | ptr i a=>simp only [purify] at h; split at h <;> (try split at h) <;> simp at h
   | rptr i a b=>simp only [purify] at h; split at h <;> (try split at h) <;> simp at h
   | _=>simp [purify] at h
 | resv m =>
  exfalso
  cases n with
  | zero=>simp [purify] at h
  | succ n =>
   cases p with
   | undef=>simp [PV.scalar] at hp
   | opq x off =>
    cases off with
    | succ k=>simp [purify] at h
    | zero =>
     simp only [purify,oJ,pJ] at h
     obtain ⟨rfl,_⟩:=h
     cases hv with
     | fz _ _ h=>cases h with | opq0 _ _ hk _=>simp [okOther] at hk
     | opq0 _ _ hk _=>simp [okOther] at hk
     | opq _ _ _ _ hk _=>simp [okOther] at hk
     | dead _ _ _ _ hr=>simp [refOf] at hr
   | iface t x=>simp only [purify] at h; split at h <;> simp at h
   | func f a b=>simp only [purify] at h; cases hy:isYield f <;> rw [hy] at h <;> first | (cases h; done) | (simp only [cond_false] at h; split at h <;> (try split at h) <;> simp at h)
   | agg l=>simp only [purify] at h; split at h <;> simp at h
   | tuple l=>simp only [purify] at h; split at h <;> simp at h
   | lall i=>simp only [purify] at h; split at h <;> simp at h
   | mapr i=>simp only [purify] at h; split at h <;> simp at h
   | lsl i a b c=>simp only [purify] at h; split at h <;> simp at h
   | ptr i a=>simp only [purify] at h; split at h <;> (try split at h) <;> simp at h
   | rptr i a b=>simp only [purify] at h; split at h <;> (try split at h) <;> simp at h
   | _=>simp [purify] at h
 | agg l=>cases hv'; simp [Value.oneCell'] at hone
 | tuple l=>cases hv'; simp [Value.oneCell'] at hone
 | _=>rfl
theorem zbn {p:PV} (h:p.scalar=true):p.cellsL=[p]:=by cases p <;> first | rfl | simp [PV.scalar] at h
section
variable {w0 w:World} {Wx:Nat→Nat→Prop} {bl:zh} {objs:List Obj}
theorem z19r (S:Sim w0 Wx w bl objs) {i b o0:Nat} {o':Obj} {cs cs':Array Value} {e:TypeId} {fr:Nat×Nat} (hi:i<objs.length) (hb:bl[i]?=some (some (b,o0)))
  (hal:z4u (nthD .dead objs i) o') (hheap:w.heap[b]?=some (.cells cs e fr)) (hsz:cs'.size=cs.size)
  (hout:∀ x,¬ WT Wx bl objs b x→cs'[x]?=cs[x]?)
  (hw:∀ b x,WO bl (setN objs i o') b x→WO bl objs b x) :
  Ext w (WT Wx bl objs) bl objs (wset w b cs' e fr) (WT Wx bl (setN objs i o')) bl (setN objs i o') where
 keep:=by
  refine ⟨?_,?_⟩
  ·intro b' x v hv hnw
   refine ⟨?_,fun h=>hnw (h.imp id (hw b' x))⟩
   by_cases hbb:b=b'
   ·subst hbb
    rw [zch (z1v hheap),hout x hnw]
    rwa [zch hheap] at hv
   ·unfold World.cell? at hv ⊢
    simp only at hv ⊢
    rw [z57 w cs' e fr hbb]; exact hv
  ·intro b' es c hv hnw
   refine ⟨?_,fun h=>hnw (h.imp id (hw b' 0))⟩
   by_cases hbb:b=b'
   ·subst hbb; rw [hheap] at hv; cases hv
   ·rw [z57 w cs' e fr hbb]; exact hv
 len:=by simp
 obj:=by
  intro j hj
  right
  refine ⟨rfl,?_⟩
  by_cases hij:i=j
  ·subst hij; rw [z8 _ _ _ _ hi]; exact hal
  ·rw [zd _ _ _ _ _ hij]; exact z4u.refl _
 room:=by
  rintro b' n ⟨c,e',fr',hh,hn⟩
  by_cases hbb:b=b'
  ·subst hbb
   rw [hheap] at hh
   simp at hh
   obtain ⟨rfl,rfl,rfl⟩:=hh
   exact ⟨cs',e,fr,z1v hheap,by omega⟩
  ·exact ⟨c,e',fr',(z57 w cs' e fr hbb).trans hh,hn⟩
theorem z18m {B:Nat} {w0 w:World} {b:Nat} {cs:Array Value} {e:TypeId} {fr:Nat×Nat} (h:Below B w0 w) (hb:B≤b):Below B w0 (wset w b cs e fr) :=
 h.trans ⟨rfl,rfl,rfl,by rw [z131]; exact Nat.le_refl _,fun k hk=>z57 w cs e fr (by omega)⟩
theorem z19q (S:Sim w0 Wx w bl objs) {i b o0:Nat} {o':Obj} {cs':Array Value} {e:TypeId} {fr:Nat×Nat} (hi:i<objs.length) (hb:bl[i]?=some (some (b,o0)))
  (hai:alive objs i) (hao:o'≠.dead) (H:Ext w (WT Wx bl objs) bl objs (wset w b cs' e fr) (WT Wx bl (setN objs i o')) bl (setN objs i o'))
  (hnew:ORel (wset w b cs' e fr) (WT Wx bl (setN objs i o')) bl (setN objs i o') i):Sim w0 Wx (wset w b cs' e fr) bl (setN objs i o') where
 below:=z18m S.below (S.own i b o0 hb).1
 len:=by simp [S.len]
 own:=fun j b' x h=>⟨(S.own j b' x h).1,by rw [z131]; exact (S.own j b' x h).2⟩
 inj:=by
  intro j k b' x y hj hk aj ak
  have key:∀ j,alive (setN objs i o') j→alive objs j:=by
   intro j h
   by_cases hij:i=j
   ·subst hij; exact hai
   ·unfold alive at h ⊢; rwa [zd _ _ _ _ _ hij] at h
  exact S.inj j k b' x y hj hk (key j aj) (key k ak)
 obj:=by
  intro j hj
  by_cases hij:i=j
  ·subst hij; exact hnew
  ·have hsame:nthD .dead (setN objs i o') j=nthD .dead objs j:=zd _ _ _ _ _ hij
   by_cases haj:alive objs j
   ·refine (S.obj j (by simpa using hj)).keep H (by rw [hsame]; exact sameO.refl _) rfl (fun b' x hb'=>?_)
    refine z57 w cs' e fr (fun hbb=>?_)
    subst hbb
    exact hij (S.inj i j b o0 x hb hb' hai haj)
   ·exact ORel.of_dead (by rw [hsame]; exact zvx haj)
 wx:=S.wx
end
section
variable {E:Env} (hE:EnvOk E) {w0 w:World} {Wx:Nat→Nat→Prop} {bl:zh} {objs:List Obj}
theorem z15r {i:Nat} {o':Obj} (hi:i<objs.length) (h:∀ b o0 x,bl[i]?=some (some (b,o0))→mayW o' o0 x→mayW (nthD .dead objs i) o0 x) (b x:Nat) (hw:WO bl (setN objs i o') b x):WO bl objs b x:=by
 obtain ⟨j,o0,hb,hm⟩:=hw
 refine ⟨j,o0,hb,?_⟩
 by_cases hij:i=j
 ·subst hij
  rw [z8 _ _ _ _ hi] at hm
  exact h b o0 x hb hm
 ·rwa [zd _ _ _ _ _ hij] at hm
theorem stC_spec {l l':List PV} {k off s:Nat} {vs:List PV} (hs:allB PV.scalar vs=true) (hel:∀ p,l[k]?=some p→p.cellsL.length=s∧∀ (j:Nat) (q:PV),p.cellsL[j]?=some q→q.scalar=true)
  (h:stC l k off vs=some l'):∃ p p',l[k]?=some p∧l'=l.set k p'∧p'.cellsL=za5 p.cellsL off vs∧off+vs.length≤s:=by
 unfold stC at h
 cases hk:l[k]? with
 | none=>rw [hk] at h; cases h
 | some p =>
  rw [hk] at h
  obtain ⟨h1,h2⟩:=hel p hk
  have one:p.cellsL=[p]→(∀ (off:Nat) (vs:List PV),(match off,vs with | 0,[w]=>some (l.set k w) | _,_=>none)=some l'→allB PV.scalar vs=true →
    ∃ p1 p',some p=some p1∧l'=l.set k p'∧p'.cellsL=za5 p1.cellsL off vs∧off+vs.length≤s):=by
   intro hp off vs h hs
   match off,vs with
   | 0,[x] =>
    simp only [oJ] at h
    refine ⟨p,x,rfl,h.symm,?_,?_⟩
    ·rw [hp]
     have:x.scalar=true:=zk hs x (by simp)
     cases x <;> first | rfl | simp [PV.scalar] at this
    ·rw [hp] at h1; simp at h1 ⊢; omega
   | 0,[]=>simp at h
   | 0,_::_::_=>simp at h
   | _+1,_=>simp at h
  cases p with
  | agg cs =>
   simp only at h
   by_cases hle:off+vs.length≤cs.length
   ·rw [decide_eq_true hle] at h
    simp only [cond_true,oJ] at h
    exact ⟨_,.agg (za5 cs off vs),rfl,h.symm,rfl,by have:cs.length=s:=h1; omega⟩
   ·rw [decide_eq_false hle] at h; simp at h
  | _=>exact one rfl off vs h hs
include hE
theorem zog (t:Nat) (hd:(E.ti t).d.known=true) (b o:Nat) {v:Value} {cs:Array Value} {e:TypeId} {fr:Nat×Nat} (hheap:w.heap[b]?=some (.cells cs e fr)) (hnf:NoFz cs.size fr)
  (hsz:v.cells.size=(E.ti t).size) (hle:o+v.cells.size≤cs.size) (hone:∀ u∈v.cells.toList,u.oneCell'=true) :
  (storeVar t ⟨b,o,none⟩ v).run E.P w=.ok () (wset w b (z45 cs o v.cells.toList) e fr):=by
 unfold storeVar
 simp only [Sem.run_bind,z7l hE w hd,Result.andThen_ok]
 rw [if_neg (by rw [hsz]; simp)]
 have:=z79 (P:=E.P) b o v.cells.toList 0 w cs e fr hheap hnf (by simpa using hle) hone
 simpa using this
theorem z1fk (S:Sim w0 Wx w bl objs) (t:Nat) {a p:PV} {va v:Value} (ha:VR w (WT Wx bl objs) bl objs a va) (hv:VR w (WT Wx bl objs) bl objs p v)
  {objs':List Obj} (h:zoh E t objs a p some=some objs') :
  ∃ w',(Instr.storeAt t va v).run E.P w=.ok () w'∧Sim w0 Wx w' bl objs'∧Ext w (WT Wx bl objs) bl objs w' (WT Wx bl objs') bl objs':=by
 have run:∀ x:Addr,(Instr.storeAt t (.pointer (some x)) v).run E.P w=(storeVar t x v).run E.P w:=fun x=>rfl
 unfold zoh at h
 simp only at h
 cases hc:((E.ti t).d.known&&(p.cellsL.length == (E.ti t).size)&&allB PV.scalar p.cellsL) with
 | false=>rw [hc] at h; simp at h
 | true =>
  rw [hc] at h
  simp only [Bool.not_true,cond_false] at h
  simp only [Bool.and_eq_true,beq_iff_eq] at hc
  obtain ⟨⟨hd,hcl⟩,hcs⟩:=hc
  obtain ⟨hsz,hcells⟩:=zb8 hv hcs
  have hone:∀ u∈v.cells.toList,u.oneCell'=true:=by
   intro u hu
   obtain ⟨j,hj⟩:=List.getElem?_of_mem hu
   have hj':j<p.cellsL.length:=by
    have:=(List.getElem?_eq_some_iff.1 hj).1
    simp at this; omega
   obtain ⟨u',h1,h2,_⟩:=hcells j _ (List.getElem?_eq_getElem hj')
   simp at hj
   rw [hj] at h1
   cases h1
   exact h2
  cases a with
  | ptr i off =>
   simp only at h
   cases ho:nthD .dead objs i with
   | cells e l f =>
    cases f with
    | true=>rw [ho] at h; simp at h
    | false =>
     rw [ho] at h
     simp only at h
     have hi:=zem ho (by simp)
     by_cases hle:off+(E.ti t).size≤l.length
     ·rw [Nat.ble_eq_true_of_le hle] at h
      simp only [cond_true,oJ] at h
      subst h
      obtain ⟨b,cs,fr,hb,hheap,hlen,hnf,hel⟩:=zyi S hi ho
      have hva:va=.pointer (some ⟨b,0+off,none⟩):=by
       cases ha with
       | fz _ _ h=>cases h
       | dead p v j _ hr _ hdd=>simp only [refOf,oJ] at hr; subst hr; rw [ho] at hdd; cases hdd
       | ptr j _ b' o' hj hb' =>
        rw [hb] at hb'
        simp at hb'
        obtain ⟨rfl,rfl⟩:=hb'
        rfl
      subst hva
      rw [run,Nat.zero_add,zog hE t hd b off hheap hnf (by omega) (by omega) hone]
      have hal:alive objs i:=by unfold alive; rw [ho]; trivial
      have H:=z19r S (o':=.cells e (za5 l off p.cellsL) false) hi hb (by rw [ho]; exact ⟨rfl,(z9k _ _ _).symm⟩) hheap (z82 v.cells.toList cs off)
       (fun x hx=>absurd (.inr ⟨i,0,hb,by rw [ho]; trivial⟩) hx) (z15r hi (fun b o0 x _ _=>by rw [ho]; trivial))
      refine ⟨_,rfl,z19q S hi hb hal (by simp) H ?_,H⟩
      unfold ORel
      rw [z8 _ _ _ _ hi]
      refine ⟨b,_,fr,hb,z1v hheap,by simp [z9k,hlen],by simpa using hnf,fun j q hq=>?_⟩
      by_cases hin:off≤j∧j<off+p.cellsL.length
      ·obtain ⟨k,rfl⟩:∃ k,j=off+k:=⟨j-off,by omega⟩
       rw [zs8 _ _ _ _ (by omega) (by omega)] at hq
       obtain ⟨u,h1,_,h3⟩:=hcells k q hq
       refine ⟨.inl (zk hcs q (List.mem_of_getElem? hq)),u,?_,h3.mono H⟩
       rw [zaq _ _ _ _ (by simp; omega) (by simp; omega)]
       simpa using h1
      ·rw [zhh _ _ _ _ (by omega)] at hq
       obtain ⟨h1,u,h2,h3⟩:=hel j q hq
       refine ⟨h1,u,?_,h3.mono H⟩
       rw [z3e _ _ _ _ (by simp; omega)]
       exact h2
     ·have:Nat.ble (off+(E.ti t).size) l.length=false:=by
       cases hb:Nat.ble (off+(E.ti t).size) l.length with
       | false=>rfl
       | true=>exact absurd (Nat.le_of_ble_eq_true hb) hle
      rw [this] at h; simp at h
   | row s0 l0 fz0 cap0 =>
    rw [ho] at h
    simp only at h
    cases hp:purifyL pfuel objs p.cellsL with
    | none=>rw [hp] at h; cases h
    | some y =>
    obtain ⟨vs,objs1⟩:=y
    rw [hp] at h
    simp only at h
    obtain ⟨F,hvl,hvs⟩:=(z3n w0 w Wx bl pfuel).2 objs p.cellsL vs objs1 (fun j=>v.cells.getD j undef) S hp (fun j q hq=>by
     obtain ⟨u,h1,_,h3⟩:=hcells j q hq
     simp only [Array.getD_eq_getD_getElem?,h1,Option.getD_some]; exact h3)
    have S1:=zcq S F
    have X1:=zep (w:=w) (Wx:=Wx) (bl:=bl) F
    have ha1:=ha.mono X1
    cases ho:nthD .dead objs1 i with
    | row e s l fz cap =>
     rw [ho] at h
     simp only at h
     have hi:=zem ho (by simp)
     cases hcc:((E.ti t).d.isArr&&(s == 1)&&(off == 0)&&Nat.beq vs.length l.length) with
     | false=>rw [hcc] at h; simp at h
     | true =>
     rw [hcc] at h
     simp only [cond_true] at h
     simp only [Bool.and_eq_true,beq_iff_eq] at hcc
     obtain ⟨⟨⟨_,rfl⟩,rfl⟩,hvll⟩:=hcc
     have hvll:=Nat.eq_of_beq_eq_true hvll
     obtain ⟨hg,h⟩:=zc h
     simp only [oJ] at h
     subst h
     have hfz:fz=0:=Nat.le_zero.1 (zp5 hg)
     subst hfz
     cases ha1 with
     | fz _ _ h=>cases h
     | dead p v j _ hr _ hdd=>simp only [refOf,oJ] at hr; subst hr; rw [ho] at hdd; cases hdd
     | ptr j _ b o hj hb =>
      obtain ⟨cs,fr,hheap,hlen,hnf,hel⟩:=zdo S1 hi ho hb
      have hvsc:allB PV.scalar vs=true:=by
       refine zw7 (fun q hq=>?_)
       obtain ⟨j,hj⟩:=List.getElem?_of_mem hq
       obtain ⟨m,q0,o1,o2,hq0,hpq⟩:=zap hp j q hj
       obtain ⟨u,h1,_,h3⟩:=hcells j q0 hq0
       have h4:=hvs j q hj
       simp only [Array.getD_eq_getD_getElem?,h1,Option.getD_some] at h4
       exact z81 hpq (zk hcs q0 (List.mem_of_getElem? hq0)) h3 h4
      rw [run,Nat.add_zero,zog hE t hd b o hheap hnf (by omega) (by omega) hone]
      have hal:alive objs1 i:=by unfold alive; rw [ho]; trivial
      have H:=z19r S1 (o':=.row e 1 vs 0 cap) hi hb (by rw [ho]; exact ⟨rfl,rfl,hvll.symm,rfl⟩) hheap (z82 v.cells.toList cs o)
       (fun x hx=>z3e _ _ _ _ (.inl (by
        rcases Nat.lt_or_ge x o with h' | h'
        ·exact h'
        ·exact absurd (.inr ⟨i,o,hb,by rw [ho]; show o+0*1≤x; omega⟩) hx))) (z15r hi (fun b o0 x _ hx=>by rw [ho]; exact hx))
      refine ⟨_,rfl,z19q S1 hi hb hal (by simp) H ?_,X1.trans H⟩
      unfold ORel
      rw [z8 _ _ _ _ hi]
      right
      refine ⟨b,o,_,fr,hb,z1v hheap,by simp; omega,by simpa using hnf,fun k q hq=>?_⟩
      have hqs:q.scalar=true:=zk hvsc q (List.mem_of_getElem? hq)
      rw [zbn hqs]
      refine ⟨rfl,fun j x hx=>?_⟩
      cases j with
      | succ j=>simp at hx
      | zero =>
      simp at hx
      subst hx
      have h3:=hvs k q hq
      have hm:k<v.cells.size:=by have:=z3j hq; omega
      refine ⟨hqs,v.cells[k],?_,?_⟩
      ·rw [Nat.mul_one,Nat.add_zero,zaq _ _ _ _ (by simpa using hm) (by simp; omega)]
       simp [hm]
      ·have:v.cells.getD k undef=v.cells[k]:=by simp [Array.getD_eq_getD_getElem?,hm]
       rw [this] at h3
       exact h3.mono H.keep
    | _=>rw [ho] at h; simp at h
   | _=>rw [ho] at h; simp at h
  | rptr i kk off =>
   simp only at h
   cases hp:purifyL pfuel objs p.cellsL with
   | none=>rw [hp] at h; cases h
   | some y =>
    obtain ⟨vs,objs1⟩:=y
    rw [hp] at h
    simp only at h
    obtain ⟨F,hvl,hvs⟩:=(z3n w0 w Wx bl pfuel).2 objs p.cellsL vs objs1 (fun j=>v.cells.getD j undef) S hp (fun j q hq=>by
     obtain ⟨u,h1,_,h3⟩:=hcells j q hq
     simp only [Array.getD_eq_getD_getElem?,h1,Option.getD_some]; exact h3)
    have S1:=zcq S F
    have X1:=zep (w:=w) (Wx:=Wx) (bl:=bl) F
    have ha1:=ha.mono X1
    cases ho:nthD .dead objs1 i with
    | row e s l fz cap =>
     rw [ho] at h
     simp only at h
     have hi:=zem ho (by simp)
     obtain ⟨hfz,hst⟩:fz≤kk∧∃ l',stC l kk off vs=some l'∧objs'=setN objs1 i (.row e s l' fz cap):=by
      obtain ⟨hg,h⟩:=zc h
      cases hl':stC l kk off vs with
      | none=>rw [hl'] at h; cases h
      | some l' =>
       rw [hl'] at h
       simp only [oB,oJ] at h
       exact ⟨zp5 hg,l',rfl,h.symm⟩
     obtain ⟨l',hst,rfl⟩:=hst
     cases ha1 with
     | fz _ _ h=>cases h
     | dead p v j _ hr _ hdd=>simp only [refOf,oJ] at hr; subst hr; rw [ho] at hdd; cases hdd
     | rptr j _ _ b o s' fz' l2 cap' hj ho' hb =>
      rw [ho] at ho'; cases ho'
      obtain ⟨cs,fr,hheap,hlen,hnf,hel⟩:=zdo S1 hi ho hb
      have hvsc:allB PV.scalar vs=true:=by
       refine zw7 (fun q hq=>?_)
       obtain ⟨j,hj⟩:=List.getElem?_of_mem hq
       obtain ⟨m,q0,o1,o2,hq0,hpq⟩:=zap hp j q hj
       obtain ⟨u,h1,_,h3⟩:=hcells j q0 hq0
       have h4:=hvs j q hj
       simp only [Array.getD_eq_getD_getElem?,h1,Option.getD_some] at h4
       exact z81 hpq (zk hcs q0 (List.mem_of_getElem? hq0)) h3 h4
      obtain ⟨u,u',hk,rfl,hu',hoff⟩:=stC_spec (s:=s) hvsc (fun q hq=>⟨(hel kk q hq).1,fun j x hx=>((hel kk q hq).2 j x hx).1⟩) hst
      obtain ⟨hus,huc⟩:=hel kk u hk
      have hkl:kk<l.length:=z3j hk
      have hmul:(kk+1)*s≤l.length*s:=Nat.mul_le_mul_right s hkl
      have hmul2:(kk+1)*s=kk*s+s:=by rw [Nat.add_mul]; omega
      rw [run,zog hE t hd b (o+kk*s+off) hheap hnf (by omega) (by omega) hone]
      have hal:alive objs1 i:=by unfold alive; rw [ho]; trivial
      have hfzs:fz*s≤kk*s:=Nat.mul_le_mul_right s hfz
      have H:=z19r S1 (o':=.row e s (l.set kk u') fz cap) hi hb (by rw [ho]; exact ⟨rfl,rfl,by simp,rfl⟩) hheap (z82 v.cells.toList cs (o+kk*s+off))
       (fun x hx=>z3e _ _ _ _ (.inl (by
        rcases Nat.lt_or_ge x (o+kk*s+off) with h' | h'
        ·exact h'
        ·exact absurd (.inr ⟨i,o,hb,by rw [ho]; show o+fz*s≤x; omega⟩) hx))) (z15r hi (fun b o0 x _ hx=>by rw [ho]; exact hx))
      refine ⟨_,rfl,z19q S1 hi hb hal (by simp) H ?_,X1.trans H⟩
      unfold ORel
      rw [z8 _ _ _ _ hi]
      right
      refine ⟨b,o,_,fr,hb,z1v hheap,by simpa using hlen,by simpa using hnf,fun k q hq=>?_⟩
      by_cases hkk:kk=k
      ·subst hkk
       rw [List.getElem?_set_self hkl] at hq
       simp only [oJ] at hq
       subst hq
       rw [hu']
       refine ⟨by rw [z9k]; exact hus,fun j x hx=>?_⟩
       by_cases hin:off≤j∧j<off+vs.length
       ·obtain ⟨m,rfl⟩:∃ m,j=off+m:=⟨j-off,by omega⟩
        rw [zs8 _ _ _ _ (by omega) (by omega)] at hx
        have h3:=hvs m x hx
        have hm:m<v.cells.size:=by omega
        refine ⟨zk hvsc x (List.mem_of_getElem? hx),v.cells[m],?_,?_⟩
        ·rw [← Nat.add_assoc,zaq _ _ _ _ (by simpa using hm) (by simp; omega)]
         simp [hm]
        ·have:v.cells.getD m undef=v.cells[m]:=by simp [Array.getD_eq_getD_getElem?,hm]
         rw [this] at h3
         exact h3.mono H.keep
       ·rw [zhh _ _ _ _ (by omega)] at hx
        obtain ⟨h1,y,h2,h3⟩:=huc j x hx
        refine ⟨h1,y,?_,h3.mono H.keep⟩
        rw [z3e _ _ _ _ (by simp; omega)]
        exact h2
      ·rw [List.getElem?_set_ne hkk] at hq
       obtain ⟨h1,h2⟩:=hel k q hq
       refine ⟨h1,fun j x hx=>?_⟩
       obtain ⟨h3,y,h4,h5⟩:=h2 j x hx
       refine ⟨h3,y,?_,h5.mono H.keep⟩
       have hj:j<s:=by have:=z3j hx; omega
       rw [z3e _ _ _ _ ?_]
       ·exact h4
       ·rcases Nat.lt_or_ge k kk with hlt | hge
        ·left
         have:(k+1)*s≤kk*s:=Nat.mul_le_mul_right s hlt
         have:(k+1)*s=k*s+s:=by rw [Nat.add_mul]; omega
         omega
        ·right
         have:(kk+1)*s≤k*s:=Nat.mul_le_mul_right s (by omega)
         simp
         omega
    | _=>rw [ho] at h; simp at h
  | _=>simp at h
end
end Dv

namespace Dv
open Go Go.RowKit
section
variable {w0 w:World} {Wx:Nat→Nat→Prop} {bl:zh} {objs:List Obj}
theorem noFz0 (n:Nat):NoFz n (0,0):=fun o _ h=>by simp at h
theorem new_heap (w:World) (o:Go.Obj):(w.alloc o).heap[w.heap.size]?=some o:=by
 show (w.heap.push o)[w.heap.size]?=_
 simp
theorem zvk (S:Sim w0 Wx w bl objs) (cells:Array Value) (e:TypeId) (fr:Nat×Nat) (hfr:NoFz cells.size fr) (s:Nat) (l:List PV) (cap:Option Nat) (fz:Nat) (hlen:l.length*s≤cells.size)
  (hel:∀ (k:Nat) (p:PV),l[k]?=some p→p.cellsL.length=s∧∀ (j:Nat) (q:PV),p.cellsL[j]?=some q→q.scalar=true∧∃ v,cells[k*s+j]?=some v∧VRf w (WT Wx bl objs) q v) :
  Sim w0 Wx (w.alloc (.cells cells e fr)) (bl++[some (w.heap.size,0)]) (objs++[.row e s l fz cap]) ∧
  Ext w (WT Wx bl objs) bl objs (w.alloc (.cells cells e fr)) (WT Wx (bl++[some (w.heap.size,0)]) (objs++[.row e s l fz cap])) (bl++[some (w.heap.size,0)]) (objs++[.row e s l fz cap]) ∧
  ∀ c,l.length≤c→c*s≤cells.size→(∀ m,cap=some m→c=m) →
   VR (w.alloc (.cells cells e fr)) (WT Wx (bl++[some (w.heap.size,0)]) (objs++[.row e s l fz cap])) (bl++[some (w.heap.size,0)]) (objs++[.row e s l fz cap]) (.lall objs.length) (.slice (some ⟨w.heap.size,0,none⟩) l.length c):=by
 have H:=zi4 S (.cells cells e fr) (.row e s l fz cap) 0
 have hbl:(bl++[some (w.heap.size,0)])[objs.length]?=some (some (w.heap.size,0)):=by rw [← S.len]; simp
 refine ⟨zl5 S _ _ 0 ?_,H,fun c h1 h2 h3=>?_⟩
 ·unfold ORel
  rw [z11]
  refine .inr ⟨w.heap.size,0,cells,fr,hbl,new_heap w _,by omega,hfr,fun k p hp=>?_⟩
  obtain ⟨h1,h2⟩:=hel k p hp
  refine ⟨h1,fun j q hq=>?_⟩
  obtain ⟨h3,v,h4,h5⟩:=h2 j q hq
  exact ⟨h3,v,by rw [Nat.zero_add]; exact h4,h5.mono H.keep⟩
 ·exact .lall objs.length w.heap.size 0 s fz c l cap (by simp) (z11 _ _ _) hbl h1 h3 ⟨cells,e,fr,new_heap w _,by omega⟩
theorem new_var (S:Sim w0 Wx w bl objs) {p:PV} {v:Value} (hv:VR w (WT Wx bl objs) bl objs p v) (hs:allB PV.scalar p.cellsL=true) (e:TypeId) :
  Sim w0 Wx (w.alloc (.cells v.cells e)) (bl++[some (w.heap.size,0)]) (objs++[.cells e p.cellsL false]) ∧
  Ext w (WT Wx bl objs) bl objs (w.alloc (.cells v.cells e)) (WT Wx (bl++[some (w.heap.size,0)]) (objs++[.cells e p.cellsL false])) (bl++[some (w.heap.size,0)]) (objs++[.cells e p.cellsL false]) ∧
  VR (w.alloc (.cells v.cells e)) (WT Wx (bl++[some (w.heap.size,0)]) (objs++[.cells e p.cellsL false])) (bl++[some (w.heap.size,0)]) (objs++[.cells e p.cellsL false]) (.ptr objs.length 0) (.pointer (some ⟨w.heap.size,0,none⟩)):=by
 have H:=zi4 S (.cells v.cells e) (.cells e p.cellsL false) 0
 have hbl:(bl++[some (w.heap.size,0)])[objs.length]?=some (some (w.heap.size,0)):=by rw [← S.len]; simp
 obtain ⟨hsz,hc⟩:=zb8 hv hs
 refine ⟨zl5 S _ _ 0 ?_,H,?_⟩
 ·unfold ORel
  rw [z11]
  refine ⟨w.heap.size,v.cells,(0,0),hbl,new_heap w _,hsz,noFz0 _,fun j q hq=>?_⟩
  obtain ⟨u,h1,_,h3⟩:=hc j q hq
  exact ⟨.inl (zk hs q (List.mem_of_getElem? hq)),u,h1,h3.mono H⟩
 ·exact .ptr objs.length 0 w.heap.size 0 (by simp) hbl
theorem z1aq (S:Sim w0 Wx w bl objs):Ext w (WT Wx bl objs) bl objs w (WT Wx (bl++[none]) (objs++[.hole])) (bl++[none]) (objs++[.hole]) where
 keep:=by
  have key:∀ b x,WT Wx (bl++[none]) (objs++[.hole]) b x→WT Wx bl objs b x:=by
   rintro b x (h | ⟨i,o1,hi,hm⟩)
   ·exact .inl h
   ·right
    have hlt:i<bl.length:=by
     rcases Nat.lt_or_ge i bl.length with h | h
     ·exact h
     ·rw [List.getElem?_append_right h] at hi
      have:i-bl.length=0:=by have:=(List.getElem?_eq_some_iff.1 hi).1; simp at this; omega
      rw [this] at hi; simp at hi
    rw [List.getElem?_append_left hlt] at hi
    rw [zo _ _ _ _ (S.len▸hlt)] at hm
    exact ⟨i,o1,hi,hm⟩
  exact ⟨fun b x v hv hw=>⟨hv,fun h=>hw (key b x h)⟩,fun b es c hv hw=>⟨hv,fun h=>hw (key b 0 h)⟩⟩
 len:=by simp
 obj:=by
  intro i hi
  right
  refine ⟨List.getElem?_append_left (by rw [S.len]; exact hi),?_⟩
  rw [zo _ _ _ _ hi]
  exact z4u.refl _
 room:=fun _ _ h=>h
theorem hole_sim (S:Sim w0 Wx w bl objs):Sim w0 Wx w (bl++[none]) (objs++[.hole]) where
 below:=S.below
 len:=by simp [S.len]
 own:=by
  intro i b x hi
  by_cases hlt:i<bl.length
  ·rw [List.getElem?_append_left hlt] at hi
   exact S.own i b x hi
  ·exfalso
   have h:=Nat.le_of_not_lt hlt
   rw [List.getElem?_append_right h] at hi
   have:i-bl.length=0:=by have:=(List.getElem?_eq_some_iff.1 hi).1; simp at this; omega
   rw [this] at hi; simp at hi
 inj:=by
  intro i j b x y hi hj ai aj
  have key:∀ (i b x:Nat),(bl++[none])[i]?=some (some (b,x))→i<bl.length∧bl[i]?=some (some (b,x)):=by
   intro i b x hi
   have hlt:i<bl.length:=by
    rcases Nat.lt_or_ge i bl.length with h | h
    ·exact h
    ·rw [List.getElem?_append_right h] at hi
     have:i-bl.length=0:=by have:=(List.getElem?_eq_some_iff.1 hi).1; simp at this; omega
     rw [this] at hi; simp at hi
   rw [List.getElem?_append_left hlt] at hi
   exact ⟨hlt,hi⟩
  obtain ⟨h1,h2⟩:=key i b x hi
  obtain ⟨h3,h4⟩:=key j b y hj
  refine S.inj i j b x y h2 h4 ?_ ?_
  ·unfold alive at ai ⊢; rwa [zo _ _ _ _ (S.len▸h1)] at ai
  ·unfold alive at aj ⊢; rwa [zo _ _ _ _ (S.len▸h3)] at aj
 obj:=by
  intro i hi
  by_cases hlt:i<objs.length
  ·exact (S.obj i hlt).keep (z1aq S) (by rw [zo _ _ _ _ hlt]; exact sameO.refl _) (List.getElem?_append_left (by rw [S.len]; exact hlt)) (fun _ _ _=>rfl)
  ·have:i=objs.length:=by simp at hi; omega
   subst this
   unfold ORel
   rw [z11]
   show (bl++[none])[objs.length]?=some none
   rw [← S.len]; simp
 wx:=S.wx
theorem fill_ext (S:Sim w0 Wx w bl objs) {i:Nat} (hi:nthD .dead objs i=.hole) (ob:Go.Obj) (o:Obj) (o0:Nat) :
  Ext w (WT Wx bl objs) bl objs (w.alloc ob) (WT Wx (bl.set i (some (w.heap.size,o0))) (setN objs i o)) (bl.set i (some (w.heap.size,o0))) (setN objs i o) where
 keep:=by
  have key:∀ b x,b<w.heap.size→¬ WT Wx bl objs b x→¬ WT Wx (bl.set i (some (w.heap.size,o0))) (setN objs i o) b x:=by
   intro b x hb hw h
   refine hw ?_
   rcases h with h | ⟨j,o1,hj,hm⟩
   ·exact .inl h
   ·right
    by_cases hij:i=j
    ·subst hij
     exfalso
     rw [List.getElem?_set_self (by have:=(List.getElem?_eq_some_iff.1 hj).1; simpa using this)] at hj
     simp at hj
     omega
    ·rw [List.getElem?_set_ne hij] at hj
     rw [zd _ _ _ _ _ hij] at hm
     exact ⟨j,o1,hj,hm⟩
  refine ⟨?_,?_⟩
  ·intro b x v hv hw
   have hb:b<w.heap.size:=World.block_lt_of_cell? w (a:=⟨b,x,none⟩) hv
   exact ⟨(World.cell?_alloc_lt w _ (a:=⟨b,x,none⟩) hb).trans hv,key b x hb hw⟩
  ·intro b es clock hv hw
   have hb:b<w.heap.size:=by
    rcases Nat.lt_or_ge b w.heap.size with h | h
    ·exact h
    ·rw [Array.getElem?_eq_none h] at hv; cases hv
   exact ⟨(Below.heap_alloc _ _ _ hb).trans hv,key b 0 hb hw⟩
 len:=by simp
 obj:=by
  intro j hj
  by_cases hij:i=j
  ·subst hij
   left; right
   refine ⟨hi,?_⟩
   have:=S.obj i hj
   unfold ORel at this
   rwa [hi] at this
  ·right
   refine ⟨List.getElem?_set_ne hij,?_⟩
   rw [zd _ _ _ _ _ hij]
   exact z4u.refl _
 room:=by
  rintro b n ⟨cs,e,fr,hh,hn⟩
  refine ⟨cs,e,fr,?_,hn⟩
  have hlt:b<w.heap.size:=by
   rcases Nat.lt_or_ge b w.heap.size with h | h
   ·exact h
   ·rw [Array.getElem?_eq_none h] at hh; cases hh
  rw [Below.heap_alloc _ _ _ hlt]; exact hh
theorem fill_var (S:Sim w0 Wx w bl objs) {i:Nat} (hi:nthD .dead objs i=.hole) {p:PV} {v:Value} (hv:VR w (WT Wx bl objs) bl objs p v) (hs:allB PV.scalar p.cellsL=true) (e:TypeId) :
  Sim w0 Wx (w.alloc (.cells v.cells e)) (bl.set i (some (w.heap.size,0))) (setN objs i (.cells e p.cellsL false)) ∧
  Ext w (WT Wx bl objs) bl objs (w.alloc (.cells v.cells e)) (WT Wx (bl.set i (some (w.heap.size,0))) (setN objs i (.cells e p.cellsL false))) (bl.set i (some (w.heap.size,0))) (setN objs i (.cells e p.cellsL false)) ∧
  VR (w.alloc (.cells v.cells e)) (WT Wx (bl.set i (some (w.heap.size,0))) (setN objs i (.cells e p.cellsL false))) (bl.set i (some (w.heap.size,0))) (setN objs i (.cells e p.cellsL false)) (.ptr i 0) (.pointer (some ⟨w.heap.size,0,none⟩)):=by
 have hlt:i<objs.length:=by
  rcases Nat.lt_or_ge i objs.length with h | h
  ·exact h
  ·rw [zhi _ _ _ h] at hi; cases hi
 have H:=fill_ext S hi (.cells v.cells e) (.cells e p.cellsL false) 0
 have hbl:(bl.set i (some (w.heap.size,0)))[i]?=some (some (w.heap.size,0)):=List.getElem?_set_self (by rw [S.len]; exact hlt)
 obtain ⟨hsz,hc⟩:=zb8 hv hs
 have hnew:ORel (w.alloc (.cells v.cells e)) (WT Wx (bl.set i (some (w.heap.size,0))) (setN objs i (.cells e p.cellsL false))) (bl.set i (some (w.heap.size,0))) (setN objs i (.cells e p.cellsL false)) i:=by
  unfold ORel
  rw [z8 _ _ _ _ hlt]
  refine ⟨w.heap.size,v.cells,(0,0),hbl,new_heap w _,hsz,noFz0 _,fun j q hq=>?_⟩
  obtain ⟨u,h1,_,h3⟩:=hc j q hq
  exact ⟨.inl (zk hs q (List.mem_of_getElem? hq)),u,h1,h3.mono H⟩
 have key:∀ (j b x:Nat),(bl.set i (some (w.heap.size,0)))[j]?=some (some (b,x))→(j≠i∧bl[j]?=some (some (b,x)))∨(j=i∧b=w.heap.size):=by
  intro j b x hj
  by_cases hij:i=j
  ·subst hij
   rw [hbl] at hj
   simp at hj
   exact .inr ⟨rfl,hj.1.symm⟩
  ·rw [List.getElem?_set_ne hij] at hj
   exact .inl ⟨Ne.symm hij,hj⟩
 refine ⟨⟨S.below.alloc S.below.size _,by simp [S.len],?_,?_,?_,S.wx⟩,H,.ptr i 0 w.heap.size 0 (by simpa using hlt) hbl⟩
 ·intro j b x hj
  rcases key j b x hj with ⟨_,h⟩ | ⟨_,rfl⟩
  ·have:=S.own j b x h
   exact ⟨this.1,by rw [World.size_alloc]; omega⟩
  ·exact ⟨S.below.size,by rw [World.size_alloc]; omega⟩
 ·intro j k b x y hj hk aj ak
  rcases key j b x hj with ⟨h1,h2⟩ | ⟨h1,h2⟩ <;> rcases key k b y hk with ⟨h3,h4⟩ | ⟨h3,h4⟩
  ·refine S.inj j k b x y h2 h4 ?_ ?_
   ·unfold alive at aj ⊢; rwa [zd _ _ _ _ _ (Ne.symm h1)] at aj
   ·unfold alive at ak ⊢; rwa [zd _ _ _ _ _ (Ne.symm h3)] at ak
  ·have:=(S.own j b x h2).2; omega
  ·have:=(S.own k b y h4).2; omega
  ·omega
 ·intro j hj
  by_cases hij:i=j
  ·subst hij; exact hnew
  ·exact (S.obj j (by simpa using hj)).keep H (by rw [zd _ _ _ _ _ hij]; exact sameO.refl _) (List.getElem?_set_ne hij) (fun b x hb=>Below.heap_alloc _ _ _ (S.own j b x hb).2)
end
section
variable {E:Env} (hE:EnvOk E) {w0 w:World} {Wx:Nat→Nat→Prop} {bl:zh} {objs:List Obj}
theorem z10s (S:Sim w0 Wx w bl objs) (t:Nat) {p q:PV} {v:Value} (hv:VR w (WT Wx bl objs) bl objs p v) {objs':List Obj}
  (h:z10t E t p objs (fun v o=>some (v,o))=some (q,objs')):Does E w0 Wx w bl objs (Instr.box t v) q objs':=by
 have run:(Instr.box t v).run E.P w=.ok (.pointer (some ⟨w.heap.size,0,none⟩)) (w.alloc (.cells v.cells t)):=rfl
 unfold z10t at h
 cases hm:mkObj E t (E.ti t) p objs with
 | none=>rw [hm] at h; cases h
 | some o1 =>
  rw [hm] at h
  simp only [oJ,pJ] at h
  obtain ⟨rfl,rfl⟩:=h
  have plain:(bif allB PV.scalar p.cellsL then some (objs++[Obj.cells t p.cellsL false]) else none)=some o1→Does E w0 Wx w bl objs (Instr.box t v) (.ptr objs.length 0) o1:=by
   intro hm
   cases hs:allB PV.scalar p.cellsL with
   | false=>rw [hs] at hm; simp at hm
   | true =>
    rw [hs] at hm
    simp only [cond_true,oJ] at hm
    subst hm
    obtain ⟨h1,h2,h3⟩:=new_var S hv hs t
    exact ⟨_,_,_,run,h1,h2,h3⟩
  unfold mkObj at hm
  cases hd:(E.ti t).d <;> rw [hd] at hm <;> first | exact plain hm | skip
  case arr n e =>
   simp only at hm
   cases hp:purifyL pfuel objs p.cellsL with
   | none=>rw [hp] at hm; cases hm
   | some y =>
    obtain ⟨l,o2⟩:=y
    rw [hp] at hm
    simp only at hm
    cases hc:((E.ti e).size == 1)&&allB PV.scalar p.cellsL with
    | false=>rw [hc] at hm; simp at hm
    | true =>
     rw [hc] at hm
     simp only [cond_true,oJ] at hm
     subst hm
     simp only [Bool.and_eq_true,beq_iff_eq] at hc
     obtain ⟨hsz,hcells⟩:=zb8 hv hc.2
     obtain ⟨F,hll,hlr⟩:=(z3n w0 w Wx bl pfuel).2 objs p.cellsL l o2 (fun j=>v.cells.getD j undef) S hp (fun j q hq=>by
      obtain ⟨u,h1,_,h3⟩:=hcells j q hq
      simp only [Array.getD_eq_getD_getElem?,h1,Option.getD_some]; exact h3)
     have S2:=zcq S F
     have hsc:∀ (k:Nat) (q:PV),l[k]?=some q→q.scalar=true:=by
      intro k q hq
      obtain ⟨m,q0,a,b,hq0,hpq⟩:=zap hp k q hq
      obtain ⟨u,h1,_,h3⟩:=hcells k q0 hq0
      have h4:=hlr k q hq
      simp only [Array.getD_eq_getD_getElem?,h1,Option.getD_some] at h4
      exact z81 hpq (zk hc.2 q0 (List.mem_of_getElem? hq0)) h3 h4
     obtain ⟨h1,h2,_⟩:=zvk S2 v.cells t (0,0) (noFz0 _) 1 l (some l.length) 0 (by omega) (fun k q hq=>by
      have hs:=hsc k q hq
      rw [zbn hs]
      refine ⟨rfl,fun j x hx=>?_⟩
      cases j with
      | succ j=>simp at hx
      | zero =>
       simp at hx
       subst hx
       have hk:k<v.cells.size:=by rw [hsz,← hll]; exact z3j hq
       have h4:=hlr k q hq
       have:v.cells.getD k undef=v.cells[k]:=by simp [Array.getD_eq_getD_getElem?,hk]
       rw [this] at h4
       exact ⟨hs,v.cells[k],by rw [Nat.mul_one,Nat.add_zero]; exact Array.getElem?_eq_getElem hk,h4⟩)
     refine ⟨_,_,_,run,h1,(zep F).trans h2,?_⟩
     have:=F.len
     exact .ptr objs.length 0 w.heap.size 0 (by simp; omega) (by rw [← S.len]; simp)
include hE
theorem z1eu (S:Sim w0 Wx w bl objs) (t:Nat) (hd:(E.ti t).d.known=true) {q:PV} {objs':List Obj}
  (h:z10t E t (E.ti t).zero objs (fun v o=>some (v,o))=some (q,objs')):Does E w0 Wx w bl objs (Instr.alloc t true (.tuple #[])) q objs':=by
 obtain ⟨z,hz,hk⟩:=zx7 hE w hd
 have hv:=(zla w (WT Wx bl objs) bl objs 1000).1 _ _ hk
 obtain ⟨v,w',bl',h1,h2⟩:=z10s S t hv h
 refine ⟨v,w',bl',?_,h2⟩
 unfold Instr.alloc
 simp only [Sem.run_bind,hz,Result.andThen_ok]
 exact h1
theorem z1h1 (S:Sim w0 Wx w bl objs) (t:Nat) (hd:(E.ti t).d.known=true) (at_:PV) {q:PV} {objs':List Obj}
  (h:zn1 E t at_ objs (fun v o=>some (v,o))=some (q,objs')):Does E w0 Wx w bl objs (Instr.alloc t true (.tuple #[])) q objs':=by
 unfold zn1 at h
 split at h
 ·rename_i i
  split at h
  ·cases h
  ·rename_i ho _
   cases hs:allB PV.scalar (E.ti t).zero.cellsL with
   | false=>rw [hs] at h; cases h
   | true =>
   rw [hs] at h
   simp only [cond_true,oJ,pJ] at h
   obtain ⟨rfl,rfl⟩:=h
   obtain ⟨z,hz,hk⟩:=zx7 hE w hd
   have hv:=(zla w (WT Wx bl objs) bl objs 1000).1 _ _ hk
   obtain ⟨h1,h2,h3⟩:=fill_var S ho hv hs t
   refine ⟨_,_,_,?_,h1,h2,h3⟩
   unfold Instr.alloc
   simp only [Sem.run_bind,hz,Result.andThen_ok]
   rfl
  ·cases h
 ·exact z1eu hE S t hd h
end
end Dv

namespace Dv
open Go Go.RowKit
def Holds (w:World) (W:Nat→Nat→Prop) (arr:Array Value) (s:Nat) (xs:List PV):Prop :=
 arr.size=xs.length*s∧∀ (k:Nat) (p:PV),xs[k]?=some p→p.cellsL.length=s∧allB PV.scalar p.cellsL=true ∧
  ∀ (j:Nat) (q:PV),p.cellsL[j]?=some q→∃ v,arr[k*s+j]?=some v∧VRf w W q v
section
variable {w:World} {W:Nat→Nat→Prop} {s:Nat}
theorem Holds.one {arr:Array Value} {xs:List PV} (h:Holds w W arr s xs):∀ u∈arr.toList,u.oneCell'=true:=by
 intro u hu
 obtain ⟨i,hi⟩:=List.getElem?_of_mem hu
 have hlt:i<arr.size:=by have:=(List.getElem?_eq_some_iff.1 hi).1; simpa using this
 have hs:0<s:=by
  rcases Nat.eq_zero_or_pos s with rfl | h0
  ·rw [h.1,Nat.mul_zero] at hlt; omega
  ·exact h0
 have hk:i / s<xs.length:=Nat.div_lt_of_lt_mul (by rw [Nat.mul_comm,← h.1]; exact hlt)
 obtain ⟨h1,h2,h3⟩:=h.2 (i / s) _ (List.getElem?_eq_getElem hk)
 have hj:i % s<xs[i / s].cellsL.length:=by rw [h1]; exact Nat.mod_lt _ hs
 obtain ⟨v,hv,hr⟩:=h3 _ _ (List.getElem?_eq_getElem hj)
 rw [Nat.mul_comm,Nat.div_add_mod] at hv
 have:u=v:=by
  rw [Array.getElem?_toList] at hi
  rw [hi] at hv
  exact Option.some.inj hv
 subst this
 exact zk5 (bl:=[]) (objs:=[]) (.fz _ _ hr) (zk h2 _ (List.getElem_mem hj))
theorem Holds.nil:Holds w W #[] s []:=⟨by simp,fun k p hp=>by simp at hp⟩
theorem Holds.append {a b:Array Value} {xs ys:List PV} (h:Holds w W a s xs) (h':Holds w W b s ys):Holds w W (a++b) s (xs++ys):=by
 refine ⟨by simp [h.1,h'.1,Nat.add_mul],fun k p hp=>?_⟩
 by_cases hk:k<xs.length
 ·rw [List.getElem?_append_left hk] at hp
  obtain ⟨h1,h2,h3⟩:=h.2 k p hp
  refine ⟨h1,h2,fun j q hq=>?_⟩
  obtain ⟨v,hv,hr⟩:=h3 j q hq
  have hj:k*s+j<a.size:=by
   rcases Nat.lt_or_ge (k*s+j) a.size with h' | h'
   ·exact h'
   ·rw [Array.getElem?_eq_none h'] at hv; cases hv
  exact ⟨v,by rw [Array.getElem?_append_left hj]; exact hv,hr⟩
 ·rw [List.getElem?_append_right (by omega)] at hp
  obtain ⟨h1,h2,h3⟩:=h'.2 _ p hp
  refine ⟨h1,h2,fun j q hq=>?_⟩
  obtain ⟨v,hv,hr⟩:=h3 j q hq
  refine ⟨v,?_,hr⟩
  have e:k*s=xs.length*s+(k-xs.length)*s:=by rw [← Nat.add_mul]; congr 1; omega
  rw [Array.getElem?_append_right (by rw [h.1]; omega),h.1,show k*s+j-xs.length*s=(k-xs.length)*s+j by omega]
  exact hv
theorem Holds.mono {w':World} {W':Nat→Nat→Prop} {a:Array Value} {xs:List PV} (H:Keep w W w' W') (h:Holds w W a s xs):Holds w' W' a s xs :=
 ⟨h.1,fun k p hp=>let ⟨h1,h2,h3⟩:=h.2 k p hp; ⟨h1,h2,fun j q hq=>let ⟨v,hv,hr⟩:=h3 j q hq; ⟨v,hv,hr.mono H⟩⟩⟩
theorem z4k {P:Program} (w:World) (s c:Nat) (a:Option Addr):(Builtin.firstCells s 0 (.slice a 0 c)).run P w=.ok #[] w:=by
 cases a with
 | none=>simp [Builtin.firstCells]
 | some a=>simp [Builtin.firstCells,loadCells,loadCellsFrom]
theorem z1le {P:Program} (b o:Nat) (xs:List PV)
  (h:∀ (k:Nat) (p:PV),xs[k]?=some p→p.cellsL.length=s∧allB PV.scalar p.cellsL=true ∧
   ∀ (j:Nat) (q:PV),p.cellsL[j]?=some q→∃ v,w.cell? ⟨b,o+k*s+j,none⟩=some v∧VRf w W q v) :
  ∃ arr,Holds w W arr s xs∧∀ (w':World),w'.heap=w.heap→(loadCells ⟨b,o,none⟩ (xs.length*s)).run P w'=.ok arr w':=by
 refine ⟨((List.range (xs.length*s)).map fun i=>(w.cell? ⟨b,o+i,none⟩).getD undef).toArray,⟨by simp,fun k p hp=>?_⟩,fun w' hw'=>?_⟩
 ·obtain ⟨h1,h2,h3⟩:=h k p hp
  refine ⟨h1,h2,fun j q hq=>?_⟩
  obtain ⟨v,hv,hr⟩:=h3 j q hq
  refine ⟨v,?_,hr⟩
  have hj:j<s:=by have:=z3j hq; omega
  have hk:(k+1)*s≤xs.length*s:=Nat.mul_le_mul_right s (z3j hp)
  have hk2:(k+1)*s=k*s+s:=by rw [Nat.add_mul]; omega
  rw [Nat.add_assoc] at hv
  have hlt:k*s+j<xs.length*s:=by omega
  simp only [List.getElem?_toArray,List.getElem?_map,List.getElem?_range hlt,Option.map_some,hv,Option.getD_some]
 ·refine run_loadCells w' ⟨b,o,none⟩ (xs.length*s) (fun i=>(w.cell? ⟨b,o+i,none⟩).getD undef) (fun i hi=>?_)
  rw [zl7]
  have hs:0<s:=by
   rcases Nat.eq_zero_or_pos s with rfl | h0
   ·rw [Nat.mul_zero] at hi; omega
   ·exact h0
  have hk:i / s<xs.length:=Nat.div_lt_of_lt_mul (by rw [Nat.mul_comm]; exact hi)
  obtain ⟨h1,h2,h3⟩:=h (i / s) _ (List.getElem?_eq_getElem hk)
  have hj:i % s<xs[i / s].cellsL.length:=by rw [h1]; exact Nat.mod_lt _ hs
  obtain ⟨v,hv,hr⟩:=h3 _ _ (List.getElem?_eq_getElem hj)
  rw [Nat.add_assoc,Nat.mul_comm,Nat.div_add_mod] at hv
  have e:w'.cell? ⟨b,o+i,none⟩=w.cell? ⟨b,o+i,none⟩:=by simp [World.cell?,hw']
  rw [e,hv]; rfl
end
section
variable {P:Program} {w0 w:World} {Wx:Nat→Nat→Prop} {bl:zh} {objs:List Obj}
theorem z14i {α:Type} {l:List α} (h:isNilL l=true):l=[]:=by cases l <;> simp [isNilL] at h ⊢
theorem z1hx (S:Sim w0 Wx w bl objs) {i e s fz:Nat} {l:List PV} {cap:Option Nat} (hi:i<objs.length) (ho:nthD .dead objs i=.row e s l fz cap) {b o:Nat} (hb:bl[i]?=some (some (b,o))) (off len:Nat)
  (hl:off+len≤l.length):∀ (k:Nat) (p:PV),((l.drop off).take len)[k]?=some p→p.cellsL.length=s∧allB PV.scalar p.cellsL=true ∧
   ∀ (j:Nat) (q:PV),p.cellsL[j]?=some q→∃ v,w.cell? ⟨b,o+off*s+k*s+j,none⟩=some v∧VRf w (WT Wx bl objs) q v:=by
 obtain ⟨cs,fr,hheap,hlen,hnf,hel⟩:=zdo S hi ho hb
 intro k p hp
 have hk:k<len:=by have:=z3j hp; simp at this; omega
 rw [List.getElem?_take_of_lt hk,List.getElem?_drop] at hp
 obtain ⟨h1,h2⟩:=hel _ p hp
 refine ⟨h1,zw7 (fun q hq=>?_),fun j q hq=>?_⟩
 ·obtain ⟨j,hj⟩:=List.getElem?_of_mem hq
  exact (h2 j q hj).1
 ·obtain ⟨_,v,hv,hr⟩:=h2 j q hq
  refine ⟨v,?_,hr⟩
  rw [zch hheap,← hv]
  congr 1
  rw [Nat.add_mul]; omega
theorem zlu (S:Sim w0 Wx w bl objs) {sz:Nat} {x:PV} {xs:List PV} {vx:Value} (hx:VR w (WT Wx bl objs) bl objs x vx) (h:zj3 sz objs x=some xs) :
  ∃ a c arr,vx=.slice a xs.length c∧xs.length≤c∧Holds w (WT Wx bl objs) arr sz xs∧(∀ w':World,w'.heap=w.heap→(Builtin.firstCells sz xs.length vx).run P w'=.ok arr w') ∧
   (∀ b,a=some b→∀ w':World,w'.heap=w.heap→(loadCells b (xs.length*sz)).run P w'=.ok arr w')∧(a=none→xs=[]):=by
 have zero:∀ (a:Option Addr) (c:Nat),vx=.slice a 0 c→xs=[]→∃ a c arr,vx=.slice a xs.length c∧xs.length≤c∧Holds w (WT Wx bl objs) arr sz xs∧(∀ w':World,w'.heap=w.heap→(Builtin.firstCells sz xs.length vx).run P w'=.ok arr w') ∧
   (∀ b,a=some b→∀ w':World,w'.heap=w.heap→(loadCells b (xs.length*sz)).run P w'=.ok arr w')∧(a=none→xs=[]):=by
  rintro a c rfl rfl
  exact ⟨a,c,#[],rfl,Nat.zero_le _,Holds.nil,fun w' _=>z4k w' sz c a,fun b hb w' _=>by simp [loadCells,loadCellsFrom],fun _=>rfl⟩
 have some_:∀ (b o c:Nat),vx=.slice (some ⟨b,o,none⟩) xs.length c→xs.length≤c→(∀ (k:Nat) (p:PV),xs[k]?=some p→p.cellsL.length=sz∧allB PV.scalar p.cellsL=true ∧
   ∀ (j:Nat) (q:PV),p.cellsL[j]?=some q→∃ v,w.cell? ⟨b,o+k*sz+j,none⟩=some v∧VRf w (WT Wx bl objs) q v) →
   ∃ a c arr,vx=.slice a xs.length c∧xs.length≤c∧Holds w (WT Wx bl objs) arr sz xs∧(∀ w':World,w'.heap=w.heap→(Builtin.firstCells sz xs.length vx).run P w'=.ok arr w') ∧
   (∀ b,a=some b→∀ w':World,w'.heap=w.heap→(loadCells b (xs.length*sz)).run P w'=.ok arr w')∧(a=none→xs=[]):=by
  rintro b o c rfl hc h
  obtain ⟨arr,h1,h2⟩:=z1le (P:=P) b o xs h
  exact ⟨some ⟨b,o,none⟩,c,arr,rfl,hc,h1,h2,fun b' hb'=>by cases hb'; exact h2,fun h=>by cases h⟩
 unfold zj3 at h
 cases x with
 | sl0 =>
  simp only [oJ] at h
  cases hx with
  | fz _ _ h=>cases h
  | sl0=>exact zero none 0 rfl h.symm
  | dead p v i _ hr=>simp [refOf] at hr
 | se =>
  simp only [oJ] at h
  cases hx with
  | fz _ _ h=>cases h
  | se a=>exact zero a 0 rfl h.symm
  | dead p v i _ hr=>simp [refOf] at hr
 | sl s l =>
  simp only at h
  cases hc:((s == sz)||isNilL l) with
  | false=>rw [hc] at h; simp at h
  | true =>
   rw [hc] at h
   simp only [cond_true,oJ] at h
   subst h
   have hx:=hx.frozen_leaf trivial
   cases hx with
   | slemp _ a cap=>exact zero a cap rfl rfl
   | sl _ _ b o cap f hcap hs hcell hr =>
    simp only [Bool.or_eq_true,beq_iff_eq] at hc
    rcases hc with rfl | hc
    ·exact some_ b o cap rfl hcap (fun k p hp=>⟨(hs k p hp).1,(hs k p hp).2,fun j q hq=>⟨_,(hcell k p hp j q hq).1,hr k p hp j q hq⟩⟩)
    ·have:=z14i hc
     subst this
     exact zero _ cap rfl rfl
 | lall i =>
  simp only at h
  cases ho:nthD .dead objs i with
  | row e s l fz cap =>
   rw [ho] at h
   simp only at h
   cases hc:(s == sz) with
   | false=>rw [hc] at h; simp at h
   | true =>
    rw [hc] at h
    simp only [cond_true,oJ] at h
    subst h
    rw [beq_iff_eq] at hc
    subst hc
    have hi:=zem ho (by simp)
    cases hx with
    | fz _ _ h=>cases h
    | dead p v j _ hr _ hdd=>simp only [refOf,oJ] at hr; subst hr; rw [ho] at hdd; cases hdd
    | lall j b o s' fz' c l' cap' hj ho' hb hc hm hr =>
     rw [ho] at ho'; cases ho'
     have:=z1hx S hi ho hb 0 l.length (by omega)
     refine some_ b o c rfl hc (fun k p hp=>?_)
     have:=this k p (by simpa using hp)
     simpa using this
    | lallE j s' fz' a hj ho' hb=>rw [ho] at ho'; cases ho'; exact zero a 0 rfl rfl
  | _=>rw [ho] at h; cases h
 | lsl i off len lim =>
  simp only at h
  cases ho:nthD .dead objs i with
  | row e s l fz cap =>
   rw [ho] at h
   simp only at h
   cases hc:(s == sz) with
   | false=>rw [hc] at h; simp at h
   | true =>
    rw [hc] at h
    simp only [cond_true,oJ] at h
    subst h
    rw [beq_iff_eq] at hc
    subst hc
    have hi:=zem ho (by simp)
    cases hx with
    | fz _ _ h=>cases h
    | dead p v j _ hr _ hdd=>simp only [refOf,oJ] at hr; subst hr; rw [ho] at hdd; cases hdd
    | lsl j _ _ b o s' fz' c _ cap' l' hj ho' hb hl hc hm hm' hx' hr =>
     rw [ho] at ho'; cases ho'
     have hlen:((l.drop off).take len).length=len:=by simp; omega
     refine some_ b (o+off*s) c (by rw [hlen]) (by omega) (z1hx S hi ho hb off len hl)
    | lslE j _ s' fz' _ cap' l' a hj ho' hl hm hm' hx'=>exact zero a 0 rfl (by simp)
  | _=>rw [ho] at h; cases h
 | _=>cases h
end
end Dv

namespace Dv
open Go Go.RowKit
section runs
variable {P:Program} {w:World}
theorem zbo (t u ty e:TypeId) (i:TypeInfo) (ht:P.underlying t=some (.slice e)) (hi:P.info? e=some i) (hu:(∃ e',P.underlying u=some (.slice e'))∨P.underlying u=some .string)
  (vx:Value) (n:Nat) (hlen:(Builtin.lenOf vx).run P w=.ok n w) (arr:Array Value) (hfc:(Builtin.firstCells i.size n vx).run P w=.ok arr w)
  (base:Option Addr) (sLen sCap:Nat) (hneed:sLen+n≤sCap) :
  (Builtin.append_ #[t,u] ty #[.slice base sLen sCap,vx]).run P w =
   (match base with | some a=>(storeCells (a.add (sLen*i.size)) arr.toList).run P w | none=>.ok () w).andThen fun _ w'=>.ok (.slice base (sLen+n) sCap) w':=by
 rcases hu with ⟨e',hu⟩ | hu <;> cases base <;> simp [Builtin.append_,run_underlying ht,run_underlying hu,Go.sizeOf,typeInfo,hi,hlen,hneed,hfc]
theorem z16q (t u ty e:TypeId) (i:TypeInfo) (z:Value) (ht:P.underlying t=some (.slice e)) (hi:P.info? e=some i) (hz:i.zero=some z) (hu:(∃ e',P.underlying u=some (.slice e'))∨P.underlying u=some .string)
  (vx:Value) (n:Nat) (hlen:(Builtin.lenOf vx).run P w=.ok n w) (arr old:Array Value) (hfc:(Builtin.firstCells i.size n vx).run P w.drew=.ok arr w.drew)
  (base:Option Addr) (sLen sCap:Nat) (hfo:(Builtin.firstCells i.size sLen (.slice base sLen sCap)).run P w.drew=.ok old w.drew) (hneed:¬ sLen+n≤sCap)
  (hby:i.bytes≠0) (hfit:(sLen+n)*i.bytes≤2 ^ 46) :
  (Builtin.append_ #[t,u] ty #[.slice base sLen sCap,vx]).run P w =
   .ok (.slice (some ⟨w.heap.size,0,none⟩) (sLen+n) (grownCap w (sLen+n) sCap e)) (w.drew.alloc (.cells (old++arr++Builtin.zeroCells z.cells (grownCap w (sLen+n) sCap e-(sLen+n))) e)):=by
 have h48:Builtin.nextslicecap (sLen+n) sCap*i.bytes≤281474976710656:=growslice_fits (by omega) (by omega)
 have h48':¬ (281474976710656<Builtin.nextslicecap (sLen+n) sCap*i.bytes):=by omega
 rcases hu with ⟨e',hu⟩ | hu <;> simp [Builtin.append_,run_underlying ht,run_underlying hu,Go.sizeOf,typeInfo,zeroValue,hi,hz,hlen,hneed,h48',hby,Question.forced,hfc,hfo,newRow,grownCap]
end runs
section
variable {w0 w:World} {Wx:Nat→Nat→Prop} {bl:zh} {objs:List Obj}
theorem z15s {i:Nat} {b x:Nat} (h:WO bl (setN objs i .dead) b x):WO bl objs b x:=by
 obtain ⟨j,o0,hb,hm⟩:=h
 refine ⟨j,o0,hb,?_⟩
 by_cases hij:i=j
 ·subst hij
  rcases Nat.lt_or_ge i objs.length with hi | hi
  ·rw [z8 _ _ _ _ hi] at hm; exact hm.elim
  ·rw [zhi _ _ _ (by simpa using hi)] at hm; exact hm.elim
 ·rwa [zd _ _ _ _ _ hij] at hm
theorem ziv (i:Nat):Ext w (WT Wx bl objs) bl objs w (WT Wx bl (setN objs i .dead)) bl (setN objs i .dead) where
 keep:=⟨fun b x v hv hw=>⟨hv,fun h=>hw (h.imp id z15s)⟩,fun b es c hv hw=>⟨hv,fun h=>hw (h.imp id z15s)⟩⟩
 len:=by simp
 obj:=by
  intro j hj
  by_cases hij:i=j
  ·subst hij; rw [z8 _ _ _ _ hj]; exact .inl (.inl rfl)
  ·rw [zd _ _ _ _ _ hij]; exact .inr ⟨rfl,z4u.refl _⟩
 room:=fun _ _ h=>h
theorem zl6 {i j:Nat} (h:alive (setN objs i .dead) j):alive objs j∧i≠j:=by
 by_cases hij:i=j
 ·exfalso
  subst hij
  unfold alive at h
  rcases Nat.lt_or_ge i objs.length with hi | hi
  ·rw [z8 _ _ _ _ hi] at h; exact h
  ·rw [zhi _ _ _ (by simpa using hi)] at h; exact h
 ·unfold alive at h ⊢
  rw [zd _ _ _ _ _ hij] at h
  exact ⟨h,hij⟩
theorem zsf (S:Sim w0 Wx w bl objs) (i:Nat):Sim w0 Wx w bl (setN objs i .dead) where
 below:=S.below
 len:=by simp [S.len]
 own:=S.own
 inj:=fun j k b o o' hj hk aj ak=>S.inj j k b o o' hj hk (zl6 aj).1 (zl6 ak).1
 obj:=by
  intro j hj
  by_cases hij:i=j
  ·subst hij; exact ORel.of_dead (z8 _ _ _ _ (by simpa using hj))
  ·exact (S.obj j (by simpa using hj)).keep (ziv i) (by rw [zd _ _ _ _ _ hij]; exact sameO.refl _) rfl (fun _ _ _=>rfl)
 wx:=S.wx
theorem zea:Ext w (WT Wx bl objs) bl objs w.drew (WT Wx bl objs) bl objs:=z12r (w0:=w) (Below.refl w.heap.size w).drew
theorem zlw (S:Sim w0 Wx w bl objs):Sim w0 Wx w.drew bl objs:=z1as S (Below.refl w.heap.size w).drew
theorem inplace (S:Sim w0 Wx w bl objs) {i e s fz:Nat} {l:List PV} {cap:Option Nat} (hi:i<objs.length) (ho:nthD .dead objs i=.row e s l fz cap) {b o:Nat} (hb:bl[i]?=some (some (b,o)))
  {cs:Array Value} {fr:Nat×Nat} (hheap:w.heap[b]?=some (.cells cs e fr)) (hnf:NoFz cs.size fr) (off len c:Nat) (hroom:o+(off+c)*s≤cs.size) {xs:List PV} {arr:Array Value}
  (hA:Holds w (WT Wx bl objs) arr s xs) (hle:len+xs.length≤c) (hl:off+len≤l.length) (hfz:fz≤off+len) (cap':Option Nat) (hcap:∀ m,cap'=some m→c=m) :
  Sim w0 Wx (wset w b (z45 cs (o+(off+len)*s) arr.toList) e fr) (bl++[some (b,o+off*s)]) (setN objs i .dead++[.row e s ((l.drop off).take len++xs) (fz-off) cap']) ∧
  Ext w (WT Wx bl objs) bl objs (wset w b (z45 cs (o+(off+len)*s) arr.toList) e fr) (WT Wx (bl++[some (b,o+off*s)]) (setN objs i .dead++[.row e s ((l.drop off).take len++xs) (fz-off) cap']))
   (bl++[some (b,o+off*s)]) (setN objs i .dead++[.row e s ((l.drop off).take len++xs) (fz-off) cap']) ∧
  VR (wset w b (z45 cs (o+(off+len)*s) arr.toList) e fr) (WT Wx (bl++[some (b,o+off*s)]) (setN objs i .dead++[.row e s ((l.drop off).take len++xs) (fz-off) cap']))
   (bl++[some (b,o+off*s)]) (setN objs i .dead++[.row e s ((l.drop off).take len++xs) (fz-off) cap']) (.lall objs.length) (.slice (some ⟨b,o+off*s,none⟩) (len+xs.length) c):=by
 obtain ⟨cs',fr',hheap',hlen,hnf',hel⟩:=zdo S hi ho hb
 rw [hheap] at hheap'
 simp only [oJ,Go.Obj.cells.injEq] at hheap'
 obtain ⟨rfl,_,rfl⟩:=hheap'
 have hK:(setN objs i .dead).length=objs.length:=by simp
 have hblen:bl.length=(setN objs i Obj.dead).length:=by rw [hK]; exact S.len
 have m1:(off+len)*s=off*s+len*s:=Nat.add_mul ..
 have m2:(off+c)*s=off*s+c*s:=Nat.add_mul ..
 have m3:(len+xs.length)*s≤c*s:=Nat.mul_le_mul_right s hle
 have m4:(len+xs.length)*s=len*s+xs.length*s:=Nat.add_mul ..
 have m5:fz*s≤(off+len)*s:=Nat.mul_le_mul_right s hfz
 have hal:alive objs i:=by unfold alive; rw [ho]; trivial
 have hWO:∀ b' x,WO (bl++[some (b,o+off*s)]) (setN objs i .dead++[.row e s ((l.drop off).take len++xs) (fz-off) cap']) b' x→WO bl objs b' x:=by
  rintro b' x ⟨j,o0,hj,hm⟩
  by_cases hlt:j<bl.length
  ·rw [List.getElem?_append_left hlt] at hj
   rw [zo _ _ _ _ (hblen▸hlt)] at hm
   exact z15s ⟨j,o0,hj,hm⟩
  ·have:j=bl.length:=by
    have:=(List.getElem?_eq_some_iff.1 hj).1
    simp at this; omega
   subst this
   simp at hj
   obtain ⟨rfl,rfl⟩:=hj
   rw [hblen,z11] at hm
   refine ⟨i,o,hb,?_⟩
   rw [ho]
   show o+fz*s≤x
   have h1:o+off*s+(fz-off)*s≤x:=hm
   have h2:fz*s≤(off+(fz-off))*s:=Nat.mul_le_mul_right s (by omega)
   rw [Nat.add_mul] at h2
   omega
 have H:Ext w (WT Wx bl objs) bl objs (wset w b (z45 cs (o+(off+len)*s) arr.toList) e fr) (WT Wx (bl++[some (b,o+off*s)]) (setN objs i .dead++[.row e s ((l.drop off).take len++xs) (fz-off) cap']))
   (bl++[some (b,o+off*s)]) (setN objs i .dead++[.row e s ((l.drop off).take len++xs) (fz-off) cap']):=by
  refine ⟨⟨?_,fun b' es k hv hnw=>⟨?_,fun h=>hnw (h.imp id (hWO b' 0))⟩⟩,by simp,?_,?_⟩
  rotate_left
  ·by_cases hbb:b=b'
   ·subst hbb; rw [hheap] at hv; cases hv
   ·rw [z57 w _ e fr hbb]; exact hv
  rotate_left 2
  ·intro b' x v hv hnw
   refine ⟨?_,fun h=>hnw (h.imp id (hWO b' x))⟩
   by_cases hbb:b=b'
   ·subst hbb
    rw [zch (z1v hheap),z3e]
    ·rwa [zch hheap] at hv
    ·left
     rcases Nat.lt_or_ge x (o+(off+len)*s) with h' | h'
     ·exact h'
     ·exact absurd (.inr ⟨i,o,hb,by rw [ho]; show o+fz*s≤x; omega⟩) hnw
   ·unfold World.cell? at hv ⊢
    simp only at hv ⊢
    rw [z57 w _ e fr hbb]; exact hv
  ·intro j hj
   rw [zo _ _ _ _ (by simpa using hj)]
   by_cases hij:i=j
   ·subst hij; rw [z8 _ _ _ _ hj]; exact .inl (.inl rfl)
   ·rw [zd _ _ _ _ _ hij]
    exact .inr ⟨List.getElem?_append_left (by rw [S.len]; exact hj),z4u.refl _⟩
  ·rintro b' n ⟨c',e',fr',hh,hn⟩
   by_cases hbb:b=b'
   ·subst hbb
    rw [hheap] at hh
    simp at hh
    obtain ⟨rfl,rfl,rfl⟩:=hh
    exact ⟨_,e,fr,z1v hheap,by simpa using hn⟩
   ·exact ⟨c',e',fr',(z57 w _ e fr hbb).trans hh,hn⟩
 have hnewb:(bl++[some (b,o+off*s)])[objs.length]?=some (some (b,o+off*s)):=by rw [← S.len]; simp
 have hnewo:nthD .dead (setN objs i .dead++[Obj.row e s ((l.drop off).take len++xs) (fz-off) cap']) objs.length=.row e s ((l.drop off).take len++xs) (fz-off) cap':=by
  have:=z11 Obj.dead (setN objs i .dead) (Obj.row e s ((l.drop off).take len++xs) (fz-off) cap')
  rwa [hK] at this
 have hll:((l.drop off).take len++xs).length=len+xs.length:=by simp; omega
 refine ⟨⟨z18m S.below (S.own i b o hb).1,by simp [S.len],?_,?_,?_,S.wx⟩,H,?_⟩
 ·intro j b' x hj
  rw [z131]
  by_cases hlt:j<bl.length
  ·rw [List.getElem?_append_left hlt] at hj
   exact S.own j b' x hj
  ·have:j=bl.length:=by
    have:=(List.getElem?_eq_some_iff.1 hj).1
    simp at this; omega
   subst this
   simp at hj
   obtain ⟨rfl,rfl⟩:=hj
   exact S.own i b o hb
 ·have key:∀ (j b' x:Nat),(bl++[some (b,o+off*s)])[j]?=some (some (b',x))→alive (setN objs i .dead++[.row e s ((l.drop off).take len++xs) (fz-off) cap']) j →
    (j<bl.length∧j≠i∧alive objs j∧bl[j]?=some (some (b',x)))∨(j=bl.length∧b'=b):=by
   intro j b' x hj ha
   by_cases hlt:j<bl.length
   ·rw [List.getElem?_append_left hlt] at hj
    left
    unfold alive at ha
    rw [zo _ _ _ _ (hblen▸hlt)] at ha
    obtain ⟨h1,h2⟩:=zl6 (show alive (setN objs i .dead) j from ha)
    exact ⟨hlt,fun h=>h2 h.symm,h1,hj⟩
   ·have:j=bl.length:=by
     have:=(List.getElem?_eq_some_iff.1 hj).1
     simp at this; omega
    subst this
    simp at hj
    exact .inr ⟨rfl,hj.1.symm⟩
  intro j k b' x y hj hk aj ak
  rcases key j b' x hj aj with ⟨h1,h2,h3,h4⟩ | ⟨h1,rfl⟩ <;> rcases key k _ y hk ak with ⟨h5,h6,h7,h8⟩ | ⟨h5,h6⟩
  ·exact S.inj j k b' x y h4 h8 h3 h7
  ·subst h6; exact absurd (S.inj j i b' x o h4 hb h3 hal) h2
  ·exact absurd (S.inj k i _ y o h8 hb h7 hal) h6
  ·omega
 ·intro j hj
  by_cases hlt:j<objs.length
  ·have hsame:nthD .dead (setN objs i .dead++[Obj.row e s ((l.drop off).take len++xs) (fz-off) cap']) j=nthD .dead (setN objs i .dead) j:=zo _ _ _ _ (by simpa using hlt)
   by_cases hij:i=j
   ·subst hij
    exact ORel.of_dead (by rw [hsame,z8 _ _ _ _ hlt])
   ·by_cases haj:alive objs j
    ·refine (S.obj j hlt).keep H (by rw [hsame,zd _ _ _ _ _ hij]; exact sameO.refl _) (List.getElem?_append_left (by rw [S.len]; exact hlt)) (fun b' x hb'=>?_)
     refine z57 w _ e fr (fun hbb=>?_)
     subst hbb
     exact hij (S.inj i j b o x hb hb' hal haj)
    ·exact ORel.of_dead (by rw [hsame,zd _ _ _ _ _ hij]; exact zvx haj)
  ·have:j=objs.length:=by simp at hj; omega
   subst this
   unfold ORel
   rw [hnewo]
   right
   refine ⟨b,o+off*s,_,fr,hnewb,z1v hheap,by rw [hll]; simp; omega,by simpa using hnf,fun k p hp=>?_⟩
   have hasz:=hA.1
   by_cases hk:k<len
   ·rw [List.getElem?_append_left (by simp; omega),List.getElem?_take_of_lt hk,List.getElem?_drop] at hp
    obtain ⟨h1,h2⟩:=hel _ p hp
    refine ⟨h1,fun j q hq=>?_⟩
    obtain ⟨h3,v,h4,h5⟩:=h2 j q hq
    refine ⟨h3,v,?_,h5.mono H.keep⟩
    have hj:j<s:=by have:=z3j hq; omega
    have n1:(k+1)*s≤len*s:=Nat.mul_le_mul_right s hk
    have n2:(k+1)*s=k*s+s:=by rw [Nat.add_mul]; omega
    have n3:(off+k)*s=off*s+k*s:=Nat.add_mul ..
    rw [z3e _ _ _ _ (.inl (by omega)),← h4]
    congr 1; omega
   ·have hl2:((l.drop off).take len).length=len:=by simp; omega
    rw [List.getElem?_append_right (by omega),hl2] at hp
    obtain ⟨h1,h2,h3⟩:=hA.2 _ p hp
    refine ⟨h1,fun j q hq=>?_⟩
    obtain ⟨v,h4,h5⟩:=h3 j q hq
    refine ⟨zk h2 q (List.mem_of_getElem? hq),v,?_,h5.mono H.keep⟩
    have n3:k*s=len*s+(k-len)*s:=by rw [← Nat.add_mul]; congr 1; omega
    have hin:(k-len)*s+j<arr.size:=by
     rcases Nat.lt_or_ge ((k-len)*s+j) arr.size with h' | h'
     ·exact h'
     ·rw [Array.getElem?_eq_none h'] at h4; cases h4
    rw [show o+off*s+k*s+j=o+(off+len)*s+((k-len)*s+j) by omega,zaq _ _ _ _ (by simpa using hin) (by simp; omega)]
    simpa using h4
 ·have:=VR.lall (w:=wset w b (z45 cs (o+(off+len)*s) arr.toList) e fr) (W:=WT Wx (bl++[some (b,o+off*s)]) (setN objs i .dead++[.row e s ((l.drop off).take len++xs) (fz-off) cap']))
   objs.length b (o+off*s) s (fz-off) c _ cap' (by simp) hnewo hnewb (by rw [hll]; exact hle) hcap ⟨_,e,fr,z1v hheap,by simp; omega⟩
  rwa [hll] at this
theorem rowset (S:Sim w0 Wx w bl objs) {i e s fz:Nat} {l:List PV} {cap:Option Nat} (hi:i<objs.length) (ho:nthD .dead objs i=.row e s l fz cap) {b o:Nat} (hb:bl[i]?=some (some (b,o)))
  {cs:Array Value} {fr:Nat×Nat} (hheap:w.heap[b]?=some (.cells cs e fr)) (k:Nat) {xs:List PV} {arr:Array Value}
  (hA:Holds w (WT Wx bl objs) arr s xs) (hl:k+xs.length≤l.length) (hfz:fz≤k) :
  Sim w0 Wx (wset w b (z45 cs (o+k*s) arr.toList) e fr) bl (setN objs i (.row e s (l.take k++(xs++l.drop (k+xs.length))) fz cap)) ∧
  Ext w (WT Wx bl objs) bl objs (wset w b (z45 cs (o+k*s) arr.toList) e fr) (WT Wx bl (setN objs i (.row e s (l.take k++(xs++l.drop (k+xs.length))) fz cap)))
   bl (setN objs i (.row e s (l.take k++(xs++l.drop (k+xs.length))) fz cap)):=by
 obtain ⟨cs',fr',hheap',hlen,hnf,hel⟩:=zdo S hi ho hb
 rw [hheap] at hheap'
 simp only [oJ,Go.Obj.cells.injEq] at hheap'
 obtain ⟨rfl,_,rfl⟩:=hheap'
 have hal:alive objs i:=by unfold alive; rw [ho]; trivial
 have hfzs:fz*s≤k*s:=Nat.mul_le_mul_right s hfz
 have hasz:=hA.1
 have hll:(l.take k++(xs++l.drop (k+xs.length))).length=l.length:=by simp; omega
 have m1:(k+xs.length)*s≤l.length*s:=Nat.mul_le_mul_right s hl
 have m2:(k+xs.length)*s=k*s+xs.length*s:=Nat.add_mul ..
 have H:=z19r S (o':=.row e s (l.take k++(xs++l.drop (k+xs.length))) fz cap) hi hb (by rw [ho]; exact ⟨rfl,rfl,hll.symm,rfl⟩) hheap (z82 arr.toList cs (o+k*s))
  (fun x hx=>z3e _ _ _ _ (.inl (by
   rcases Nat.lt_or_ge x (o+k*s) with h' | h'
   ·exact h'
   ·exact absurd (.inr ⟨i,o,hb,by rw [ho]; show o+fz*s≤x; omega⟩) hx))) (z15r hi (fun b o0 x _ hx=>by rw [ho]; exact hx))
 refine ⟨z19q S hi hb hal (by simp) H ?_,H⟩
 unfold ORel
 rw [z8 _ _ _ _ hi]
 right
 refine ⟨b,o,_,fr,hb,z1v hheap,by rw [hll]; simpa using hlen,by simpa using hnf,fun j q hq=>?_⟩
 have hjl:j<l.length:=by have:=z3j hq; rw [hll] at this; exact this
 have old:l[j]?=some q→(j<k∨k+xs.length≤j)→q.cellsL.length=s∧∀ (j':Nat) (q':PV),q.cellsL[j']?=some q'→q'.scalar=true ∧
   ∃ v,(z45 cs (o+k*s) arr.toList)[o+j*s+j']?=some v∧VRf (wset w b (z45 cs (o+k*s) arr.toList) e fr) (WT Wx bl (setN objs i (.row e s (l.take k++(xs++l.drop (k+xs.length))) fz cap))) q' v:=by
  intro hq hj
  obtain ⟨h1,h2⟩:=hel j q hq
  refine ⟨h1,fun j' x hx=>?_⟩
  obtain ⟨h3,y,h4,h5⟩:=h2 j' x hx
  refine ⟨h3,y,?_,h5.mono H.keep⟩
  have hj':j'<s:=by have:=z3j hx; omega
  rw [z3e _ _ _ _ ?_]
  ·exact h4
  ·rcases hj with hlt | hge
   ·left
    have:(j+1)*s≤k*s:=Nat.mul_le_mul_right s hlt
    have:(j+1)*s=j*s+s:=by rw [Nat.add_mul]; omega
    omega
   ·right
    have:(k+xs.length)*s≤j*s:=Nat.mul_le_mul_right s hge
    simp
    omega
 by_cases h1:j<k
 ·rw [List.getElem?_append_left (by simp; omega),List.getElem?_take_of_lt h1] at hq
  exact old hq (.inl h1)
 ·have hk:(l.take k).length=k:=by simp; omega
  rw [List.getElem?_append_right (by omega),hk] at hq
  by_cases h2:j<k+xs.length
  ·rw [List.getElem?_append_left (by omega)] at hq
   obtain ⟨h3,h4,h5⟩:=hA.2 _ q hq
   refine ⟨h3,fun j' x hx=>?_⟩
   obtain ⟨v,h6,h7⟩:=h5 j' x hx
   refine ⟨zk h4 x (List.mem_of_getElem? hx),v,?_,h7.mono H.keep⟩
   have n3:j*s=k*s+(j-k)*s:=by rw [← Nat.add_mul]; congr 1; omega
   have hin:(j-k)*s+j'<arr.size:=by
    rcases Nat.lt_or_ge ((j-k)*s+j') arr.size with h' | h'
    ·exact h'
    ·rw [Array.getElem?_eq_none h'] at h6; cases h6
   rw [show o+j*s+j'=o+k*s+((j-k)*s+j') by omega,zaq _ _ _ _ (by simpa using hin) (by simp; omega)]
   simpa using h6
  ·rw [List.getElem?_append_right (by omega),List.getElem?_drop] at hq
   exact old (by rw [← hq]; congr 1; omega) (.inr (by omega))
end
end Dv
