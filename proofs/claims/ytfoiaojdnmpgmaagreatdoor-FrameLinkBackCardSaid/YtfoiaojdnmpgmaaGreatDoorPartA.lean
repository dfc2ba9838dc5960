/- Part 1. -/
import Derived.Orders
import GoSem.Core.Utf8
import Derived.Below
import Derived.Laws.IdiomCopy
import Derived.Laws.Cells
import Derived.Laws.NewBlocks
import Derived.ChangeKeysEq
import Derived.Laws.StructEq
import Derived.Laws.BytesString
set_option linter.all false
namespace Go.Abs
inductive D where
 |int (k:IntKind) (n:Int)
 |bool (b:Bool)
 |str (s:List UInt8)
 |nilptr
 |slice (xs:List D)
 |agg (cs:List D)
 deriving Inhabited,Repr
class Tab where
 tab:Nat→Option (List D)
 tak:FuncId→Bool
 cut:FuncId→Bool
inductive AV where
 |undef
 |d (x:D)
 |fslice (xs:List D)
 |lit (xs:List D)
 |ptr (r off:Nat)
 |pref (cs:List D)
 |oslice (r off len cap sz:Nat)
 |agg (cs:List AV)
 |tuple (vs:List AV)
 |mapr (r:Nat)
 |nilmap
 |func (fn:Fn) (caps:List AV)
 |nilfunc
 |iface (t:TypeId) (v:AV)
 |niliface
 |ubool
 deriving Inhabited,Repr
inductive KK where
 |int (k:IntKind)
 |str
 |bool
 deriving Inhabited,Repr,DecidableEq
inductive AObj where
 |cells (cs:List AV)
 |map (kk:KK) (es:List (D×AV))
 |siter (s:List UInt8) (pos:Nat)
 |dead
 deriving Inhabited,Repr
abbrev Qab:=List AObj
def D.cells:D→List D
 |.agg cs=>cs
 |x=> [x]
def AV.cells:AV→List AV
 |.agg cs=>cs
 |.d x=>x.cells.map .d
 |v=> [v]
def D.isCell:D→Bool
 |.agg _=>false
 |_=>true
def AV.isCell:AV→Bool
 |.d x=>x.isCell
 |.agg _|.tuple _|.undef|.ubool=>false
 |_=>true
def AV.unf:AV→AV
 |.fslice xs=> .d (.slice xs)
 |v=>v
mutual
def AV.toD:AV→Option D
 |.d x=>some x
 |.fslice xs=>some (.slice xs)
 |.lit xs=>some (.slice xs)
 |.agg cs=>(AV.toDs cs).map D.agg
 |_=>none
def AV.toDs:List AV→Option (List D)
 | []=>some []
 |v::vs=>match AV.toD v,AV.toDs vs with
  |some x,some xs=>some (x::xs)
  |_,_=>none
end
def AV.pures:List AV→Option (List D)
 | []=>some []
 |(.d x)::vs=>match AV.pures vs with
  |some xs=>some (x::xs)
  |none=>none
 |_::_=>none
def AV.mkAgg(cs:List AV):AV:=
 match AV.pures cs with
 |some ds=> .d (.agg ds)
 |none=> .agg cs
mutual
def D.beq:D→D→Bool
 |.int k n,.int j m=>decide (k=j)&&n==m
 |.bool a,.bool b=>a==b
 |.str a,.str b=>a==b
 |.nilptr,.nilptr=>true
 |.slice a,.slice b=>D.beqs a b
 |.agg a,.agg b=>D.beqs a b
 |_,_=>false
def D.beqs:List D→List D→Bool
 | [],[]=>true
 |x::xs,y::ys=>D.beq x y&&D.beqs xs ys
 |_,_=>false
end
mutual
def AV.beq:AV→AV→Bool
 |.undef,.undef=>true
 |.d x,.d y=>D.beq x y
 |.fslice a,.fslice b=>D.beqs a b
 |.lit a,.lit b=>D.beqs a b
 |.ptr r o,.ptr r' o'=>r==r'&&o==o'
 |.pref a,.pref b=>D.beqs a b
 |.oslice a b c x e,.oslice a' b' c' x' e'=>a==a'&&b==b'&&c==c'&&x==x'&&e==e'
 |.agg a,.agg b=>AV.beqs a b
 |.tuple a,.tuple b=>AV.beqs a b
 |.mapr a,.mapr b=>a==b
 |.nilmap,.nilmap=>true
 |.func f a,.func g b=>decide (f=g)&&AV.beqs a b
 |.nilfunc,.nilfunc=>true
 |.iface t v,.iface u w=>t==u&&AV.beq v w
 |.niliface,.niliface=>true
 |.ubool,.ubool=>true
 |_,_=>false
def AV.beqs:List AV→List AV→Bool
 | [],[]=>true
 |x::xs,y::ys=>AV.beq x y&&AV.beqs xs ys
 |_,_=>false
end
def Qe5:List (D×AV)→List (D×AV)→Bool
 | [],[]=>true
 |(k,v)::xs,(j,w)::ys=>D.beq k j&&AV.beq v w&&Qe5 xs ys
 |_,_=>false
def AObj.beq:AObj→AObj→Bool
 |.cells a,.cells b=>AV.beqs a b
 |.map k a,.map j b=>decide (k=j)&&Qe5 a b
 |.siter s p,.siter t q=>s==t&&p==q
 |.dead,.dead=>true
 |_,_=>false
def Qcs:Qab→Qab→Bool
 | [],[]=>true
 |x::xs,y::ys=>AObj.beq x y&&Qcs xs ys
 |_,_=>false
def Qi2:Value→AV
 |.int k n=> .d (.int k n)
 |.bool b=> .d (.bool b)
 |.string s=> .d (.str s.data.toList)
 |.pointer none=> .d .nilptr
 |.slice none 0 0=> .fslice []
 |.map none=> .nilmap
 |.nilFunc=> .nilfunc
 |.nilIface=> .niliface
 |_=> .undef
def absC:Value→AV
 |.agg cs=>if(cs.toList.map Qi2).all AV.isCell then .agg (cs.toList.map Qi2)else .undef
 |.tuple vs=>if vs.toList.isEmpty then .tuple []else .undef
 |v=>Qi2 v
inductive Opd where
 |t (n:Nat)
 |c (v:AV)
 deriving Inhabited,Repr
inductive FK where
 |int
 |str
 |bool
 deriving Inhabited,Repr,DecidableEq
inductive EqK where
 |none
 |plain (ks:List FK)
 |bool
 |ptr
 |iface
 |map
 |func
 deriving Inhabited,Repr,DecidableEq
inductive LK where
 |str
 |sl
 |map
 deriving Inhabited,Repr,DecidableEq
inductive COp where
 |move (x:Opd)
 |pick (c a b:Opd)
 |new (cells:List AV)
 |box (x:Opd)
 |build (zero:List AV) (parts:List (Nat×Nat×Opd))
 |buildSl (sz:Nat) (zero:AV) (len:Nat) (parts:List (Nat×Opd))
 |buildLit (sz:Nat) (zero:AV) (len:Nat) (parts:List (Nat×Opd))
 |load (agg:Bool) (sz:Nat) (a:Opd)
 |loadTake (a:Opd)
 |store (sz:Nat) (a v:Opd)
 |nilCheck (x:Opd)
 |bin (op:BinOp) (k:EqK) (x y:Opd)
 |nilSl (neg:Bool) (x:Opd)
 |un (op:UnOp) (x:Opd)
 |toInt (k:IntKind) (x:Opd)
 |same (x:Opd)
 |sameSl (x:Opd)
 |toBytes (x:Opd)
 |toStr (x:Opd)
 |ofRune (x:Opd)
 |mkIface (t:TypeId) (x:Opd)
 |mkFunc (fn:Fn) (caps:List Opd)
 |mkMap (kk:KK)
 |mkSl (sz bytes:Nat) (zero:List AV) (len cap:Opd)
 |slStr (x:Opd) (lo hi:Option Opd)
 |sl (sz:Nat) (x:Opd) (lo hi mx:Option Opd)
 |slArr (n sz:Nat) (x:Opd) (lo hi:Option Opd)
 |fieldAddr (off:Nat) (x:Opd)
 |field (agg:Bool) (off sz:Nat) (x:Opd)
 |idxSl (sz:Nat) (x i:Opd)
 |idxArr (n sz:Nat) (x i:Opd)
 |idxStr (x i:Opd)
 |idxAgg (n:Nat) (agg:Bool) (sz:Nat) (x i:Opd)
 |lookup (kk:KK) (zero:AV) (x i:Opd) (ok:Bool)
 |mapSet (kk:KK) (m k v:Opd)
 |rngStr (x:Opd)
 |nextStr (x:Opd)
 |extract (x:Opd) (i:Nat)
 |len (k:LK) (x:Opd)
 |append (sz bytes:Nat) (str:Bool) (x y:Opd)
 |appendO (sz bytes:Nat) (str:Bool) (x y:Opd)
 |copy (sz:Nat) (str:Bool) (x y:Opd)
 |minI (xs:List Opd)
 |maxI (xs:List Opd)
 |delete (kk:KK) (m k:Opd)
 |call (f:FuncId) (args:List Opd)
 |callV (f:Opd) (args:List Opd)
 |panic (x:Opd)
 deriving Inhabited,Repr
structure COper where
 dst:Option Nat
 op:COp
 guard:Option (Nat×Bool)
 cons:List Nat
 deriving Inhabited,Repr
structure Chk where
 es:List Nat
 rs:List Nat
 anc:List (Nat×Nat)
 plan:Option (List (List Nat×Option Nat))
 deriving Inhabited,Repr
inductive CCode where
 |skip
 |region (ops:List COper) (chk:Option Chk) (forget:List Nat)
 |seq (a b:CCode)
 |cond (c:Opd) (a b:CCode)
 |block (id:Nat) (a:CCode)
 |loop (a:CCode)
 |exit (id:Nat)
 |ret
 deriving Inhabited,Repr
inductive CRes where
 |t (n:Nat)
 |cell (t:Nat) (agg:Bool) (sz:Nat)
 deriving Inhabited,Repr
structure CFn where
 nargs:Nat
 ntmps:Nat
 keep:Bool
 body:CCode
 res:List CRes
 deriving Inhabited,Repr
structure St where
 T:List AV
 H:Qab
 deriving Inhabited
inductive AExit where
 |normal
 |exit (id:Nat)
 |ret
 deriving Inhabited,Repr,DecidableEq
def CCode.outs:CCode→Bool
 |.ret|.exit _=>true
 |.seq a b=>a.outs||b.outs
 |.cond _ a b=>a.outs&&b.outs
 |_=>false
abbrev Qba:=Nat→List AV→Qab→Option (AV×Qab)
abbrev Qa0:=FuncId→Qba
def evx(T:List AV)(cons:List Nat):Opd→AV
 |.c v=>v
 |.t n=>if cons.contains n then T.getD n .undef else(T.getD n .undef).unf
def splice(cells:List AV)(off:Nat)(vs:List AV):List AV:=cells.take off++(vs++cells.drop (off+vs.length))
def fill(cells:List AV):List (Nat×Nat×AV)→Option (List AV)
 | []=>some cells
 |(off,size,v)::rest=>
  if v.cells.length=size∧off+size≤cells.length∧v.cells.all AV.isCell=true then fill (splice cells off (v.cells.map AV.unf)) rest else none
def fillD(xs:List D):List (Nat×D)→Option (List D)
 | []=>some xs
 |(i,v)::rest=>if i<xs.length then fillD (xs.set i v) rest else none
def AV.elems:AV→Option (List D)
 |.d (.slice xs)=>some xs
 |.fslice xs=>some xs
 |.lit xs=>some xs
 |_=>none
def readCells(agg:Bool)(sz:Nat)(cs:List AV)(off:Nat):Option AV:=
 if agg then(if off+sz≤cs.length then some (AV.mkAgg (((cs.drop off).take sz).map AV.unf))else none)
 else(cs[off]?).map AV.unf
def readD(agg:Bool)(sz:Nat)(cs:List D):Option D:=
 if agg then(if sz≤cs.length then some (.agg (cs.take sz))else none)else cs[0]?
def chunks(sz:Nat)(agg:Bool):Nat→List AV→Option (List D)
 |0,_=>some []
 |n+1,cs=>match AV.toDs (cs.take sz),chunks sz agg n (cs.drop sz)with
  |some xs,some rest=>if agg then some (.agg xs::rest)else match xs with
   | [x]=>some (x::rest)
   |_=>none
  |_,_=>none
def Qai(b:UInt8):D:= .int .u8 (b.toNat:Int)
def toB:List UInt8→AV
 | []=> .d (.slice [])
 |c::s=> .fslice (Qai c::s.map Qai)
def bytesOf:List D→Option (List UInt8)
 | []=>some []
 |.int .u8 n::xs=>match bytesOf xs with
  |some bs=>some (UInt8.ofNat n.toNat::bs)
  |none=>none
 |_::_=>none
def AV.bytes:List AV→Option (List UInt8)
 | []=>some []
 |.d (.int .u8 n)::xs=>match AV.bytes xs with
  |some bs=>some (UInt8.ofNat n.toNat::bs)
  |none=>none
 |_::_=>none
abbrev intD(n:Int):AV:= .d (.int .i64 n)
abbrev boolD(b:Bool):AV:= .d (.bool b)
def AV.int? :AV→Option Int
 |.d (.int _ n)=>some n
 |_=>none
def Qdk:List UInt8→List UInt8→Bool
 |_,[]=>false
 | [],_::_=>true
 |a::x,b::y=>decide (a<b)||(a==b&&Qdk x y)
def QbW(op:BinOp)(k:IntKind)(a b:Int):Option D:=
 match op with
 |.add=>some (.int k (k.wrap (a+b)))
 |.sub=>some (.int k (k.wrap (a-b)))
 |.mul=>some (.int k (k.wrap (a*b)))
 |.quo=>if b=0 then none else some (.int k (k.wrap (a.tdiv b)))
 |.rem=>if b=0 then none else some (.int k (a.tmod b))
 |.and=>some (.int k (k.wrap ((BitVec.ofInt k.bits a&&&BitVec.ofInt k.bits b).toNat)))
 |.or=>some (.int k (k.wrap ((BitVec.ofInt k.bits a|||BitVec.ofInt k.bits b).toNat)))
 |.xor=>some (.int k (k.wrap ((BitVec.ofInt k.bits a^^^BitVec.ofInt k.bits b).toNat)))
 |.andNot=>some (.int k (k.wrap ((BitVec.ofInt k.bits a&&& ~~~BitVec.ofInt k.bits b).toNat)))
 |.eql=>some (.bool (a==b))
 |.neq=>some (.bool (a !=b))
 |.lss=>some (.bool (decide (a<b)))
 |.leq=>some (.bool (decide (a≤b)))
 |.gtr=>some (.bool (decide (a>b)))
 |.geq=>some (.bool (decide (a≥b)))
 |_=>none
def QbH(op:BinOp)(k:IntKind)(a b:Int):Option D:=
 if b<0 then none else
 match op with
 |.shl=>some (.int k (k.wrap (a*2^(min b.toNat k.bits))))
 |.shr=>some (.int k (a.fdiv (2^(min b.toNat k.bits))))
 |_=>none
def binStr(op:BinOp)(a b:List UInt8):Option D:=
 match op with
 |.add=>if a.length+b.length≤9223372036854775807 then some (.str (a++b))else none
 |.eql=>some (.bool (a==b))
 |.neq=>some (.bool (!(a==b)))
 |.lss=>some (.bool (Qdk a b))
 |.leq=>some (.bool (Qdk a b||a==b))
 |.gtr=>some (.bool (!(Qdk a b||a==b)))
 |.geq=>some (.bool (!(Qdk a b)))
 |_=>none
def isShift:BinOp→Bool
 |.shl|.shr=>true
 |_=>false
def nilEq:EqK→AV→AV→Option Bool
 |.ptr,.d .nilptr,.d .nilptr=>some true
 |.ptr,.d .nilptr,.ptr _ _=>some false
 |.ptr,.ptr _ _,.d .nilptr=>some false
 |.ptr,.d .nilptr,.pref _=>some false
 |.ptr,.pref _,.d .nilptr=>some false
 |.iface,.niliface,.niliface=>some true
 |.iface,.niliface,.iface _ _=>some false
 |.iface,.iface _ _,.niliface=>some false
 |.map,.nilmap,.nilmap=>some true
 |.map,.nilmap,.mapr _=>some false
 |.map,.mapr _,.nilmap=>some false
 |.func,.nilfunc,.nilfunc=>some true
 |.func,.nilfunc,.func _ _=>some false
 |.func,.func _ _,.nilfunc=>some false
 |_,_,_=>none
def QbG:List FK→List D→List D→Bool
 | [],[],[]=>true
 |.int::ks,.int k _::a,.int j _::b=>decide (k=j)&&QbG ks a b
 |.str::ks,.str _::a,.str _::b=>QbG ks a b
 |.bool::ks,.bool _::a,.bool _::b=>QbG ks a b
 |_,_,_=>false
def binV(op:BinOp)(k:EqK)(x y:AV):Option AV:=
 match x,y with
 |.d (.int i a),.d (.int j b)=>
  if isShift op then(QbH op i a b).map .d else if i=j then(QbW op i a b).map .d else none
 |.d (.str a),.d (.str b)=>(binStr op a b).map .d
 |.d (.bool a),.d (.bool b)=>
  if k= .bool then match op with
   |.eql=>some (boolD (a==b))
   |.neq=>some (boolD (!(a==b)))
   |_=>none
  else none
 |.d (.agg a),.d (.agg b)=>
  match k with
  |.plain ks=>if QbG ks a b=true then match op with
   |.eql=>some (boolD (D.beqs a b))
   |.neq=>some (boolD (!(D.beqs a b)))
   |_=>none
   else none
  |_=>none
 |x,y=>
  match op with
  |.eql=>(nilEq k x y).map boolD
  |.neq=>(nilEq k x y).map fun b=>boolD (!b)
  |_=>none
def unV(op:UnOp)(x:AV):Option AV:=
 match op,x with
 |.neg,.d (.int k n)=>some (.d (.int k (k.wrap (0-n))))
 |.xor,.d (.int k n)=>some (.d (.int k (k.wrap ((BitVec.ofInt k.bits (if k.signed then-1 else k.max)^^^BitVec.ofInt k.bits n).toNat))))
 |.not,.d (.bool b)=>some (boolD (!b))
 |_,_=>none
def optInt(ρ:Opd→AV)(dflt:Nat):Option Opd→Option Int
 |none=>some dflt
 |some x=>(ρ x).int?
def Qgd(k:D):List (D×AV)→Option AV
 | []=>none
 |(j,v)::es=>if D.beq k j then some v else Qgd k es
def QlJ(k:D)(v:AV):List (D×AV)→List (D×AV)
 | []=> [(k,v)]
 |(j,w)::es=>if D.beq k j then(j,v)::es else(j,w)::QlJ k v es
def delE(k:D):List (D×AV)→List (D×AV)
 | []=> []
 |(j,w)::es=>if D.beq k j then es else(j,w)::delE k es
def Qcd:KK→D→Bool
 |.int k,.int j _=>decide (k=j)
 |.str,.str _=>true
 |.bool,.bool _=>true
 |_,_=>false
def QhH(f:Int→Int→Int):List AV→Option D
 |.d (.int k a)::rest=>(rest.foldl (fun acc v=>match acc,v with
    |some (k',x),.d (.int _ y)=>some (k',f x y)
    |_,_=>none) (some (k,a))).map fun p=> .int p.1 p.2
 |_=>none
def QaS(sz:Nat):List D→Bool
 | []=>true
 |x::_=>x.cells.length==sz
def QkQ:Qab→Nat→Nat
 |H,r=>match H[r]? with
  |some (.cells cs)=>cs.length
  |_=>0
def srcOf(str:Bool)(agg:Bool)(H:Qab)(y:AV):Option (List D):=
 match str,y with
 |true,.d (.str s)=>some (s.map Qai)
 |false,.d (.slice xs)=>some xs
 |false,.fslice xs=>some xs
 |false,.lit xs=>some xs
 |false,.oslice r off len _ sz=>match H[r]? with
  |some (.cells cs)=>if off+len*sz≤cs.length then chunks sz agg len (cs.drop off)else none
  |_=>none
 |_,_=>none
def srcC(str:Bool)(sz:Nat)(H:Qab)(y:AV):Option (Nat×List AV):=
 match str,y with
 |false,.oslice r off len _ z=>match H[r]? with
  |some (.cells cs)=>if z=sz∧off+len*sz≤cs.length then some (len,((cs.drop off).take (len*sz)).map AV.unf)else none
  |_=>none
 |_,_=>match srcOf str (sz !=1) H y with
  |some ys=>if QaS sz ys=true then some (ys.length,(ys.flatMap D.cells).map .d)else none
  |none=>none
def AV.owned:AV→Bool
 |.oslice .. =>true
 |_=>false
def AV.growable:AV→Bool
 |.fslice []=>true
 |.oslice .. =>true
 |_=>false
def dec(s:List UInt8)(pos:Nat):Nat×Nat:=Utf8.decode ⟨s.toArray⟩ pos
def enc(n:Int):List UInt8:=(Utf8.encode n).data.toList
def aop(E:Qa0)(lim:Nat)(H:Qab)(ρ:Opd→AV)(o:COp):Option (AV×Qab):=
 match o with
 |.move x=>some (ρ x,H)
 |.pick c a b=>match ρ c with
  |.d (.bool t)=>some (if t then ρ a else ρ b,H)
  |_=>none
 |.new cells=>some (.ptr H.length 0,H++ [.cells cells])
 |.box x=>if(ρ x).cells.all AV.isCell then some (.ptr H.length 0,H++ [.cells (ρ x).cells])else none
 |.build zero parts=>(fill zero (parts.map fun p=>(p.1,p.2.1,ρ p.2.2))).map fun cs=>(AV.mkAgg cs,H)
 |.buildSl sz zero len parts=>
  match fill (List.replicate len zero.cells).flatten (parts.map fun p=>(p.1*sz,sz,ρ p.2))with
  |some cs=>match chunks sz (sz !=1) len cs with
   |some xs=>some (.fslice xs,H)
   |none=>some (.oslice H.length 0 len len sz,H++ [.cells cs])
  |none=>none
 |.buildLit sz zero len parts=>
  match fill (List.replicate len zero.cells).flatten (parts.map fun p=>(p.1*sz,sz,ρ p.2))with
  |some cs=>(chunks sz (sz !=1) len cs).map fun xs=>(.lit xs,H)
  |none=>none
 |.load agg sz a=>match ρ a with
  |.ptr r off=>match H[r]? with
   |some (.cells cs)=>(readCells agg sz cs off).map (·,H)
   |_=>none
  |.pref cs=>(readD agg sz cs).map fun x=>(.d x,H)
  |_=>none
 |.loadTake a=>match ρ a with
  |.ptr r off=>match H[r]? with
   |some (.cells cs)=>match cs[off]? with
    |some v=>if lim≤r then some (v,H.set r (.cells (cs.set off v.unf)))else none
    |none=>none
   |_=>none
  |.pref cs=>(cs[0]?).map fun x=>(.d x,H)
  |_=>none
 |.store sz a v=>match ρ a with
  |.ptr r off=>match H[r]? with
   |some (.cells cs)=>
    if lim≤r∧(ρ v).cells.length=sz∧off+sz≤cs.length∧(ρ v).cells.all AV.isCell=true then some (.tuple [],H.set r (.cells (splice cs off (ρ v).cells)))else none
   |_=>none
  |_=>none
 |.nilCheck x=>match ρ x with
  |.ptr r off=>some (.ptr r off,H)
  |.pref cs=>some (.pref cs,H)
  |.iface t v=>some (.iface t v,H)
  |.func (.func f) caps=>some (.func (.func f) caps,H)
  |_=>none
 |.bin op k x y=>(binV op k (ρ x) (ρ y)).map (·,H)
 |.nilSl neg x=>if(ρ x).owned=true then some (boolD neg,H)else match(ρ x).elems with
  |some (_::_)=>some (boolD neg,H)
  |some []=>some (.ubool,H)
  |none=>none
 |.un op x=>(unV op (ρ x)).map (·,H)
 |.toInt k x=>match ρ x with
  |.d (.int _ n)=>some (.d (.int k (k.wrap n)),H)
  |_=>none
 |.same x=>match ρ x with
  |.d (.str s)=>some (.d (.str s),H)
  |_=>none
 |.sameSl x=>match ρ x with
  |.lit xs=>some (.d (.slice xs),H)
  |_=>none
 |.toBytes x=>match ρ x with
  |.d (.str s)=>some (toB s,H)
  |_=>none
 |.toStr x=>match ρ x with
  |.d (.slice xs)=>(bytesOf xs).map fun s=>(.d (.str s),H)
  |.fslice xs=>(bytesOf xs).map fun s=>(.d (.str s),H)
  |.oslice r off len _ sz=>if sz=1 then match H[r]? with
   |some (.cells cs)=>if off+len≤cs.length then(AV.bytes ((cs.drop off).take len)).map fun s=>(.d (.str s),H)else none
   |_=>none
   else none
  |_=>none
 |.ofRune x=>match ρ x with
  |.d (.int _ n)=>some (.d (.str (enc n)),H)
  |_=>none
 |.mkIface t x=>some (.iface t (ρ x),H)
 |.mkFunc fn caps=>some (.func fn (caps.map ρ),H)
 |.mkMap kk=>some (.mapr H.length,H++ [.map kk []])
 |.mkSl sz bytes zero len cap=>match ρ len,ρ cap with
  |.d (.int _ l),.d (.int _ c)=>
   if 0≤l∧l≤c∧c*bytes≤281474976710656∧c≤281474976710656 then
    some (.oslice H.length 0 l.toNat c.toNat sz,H++ [.cells (List.replicate c.toNat zero).flatten])
   else none
  |_,_=>none
 |.slStr x lo hi=>match ρ x with
  |.d (.str s)=>match optInt ρ 0 lo,optInt ρ s.length hi with
   |some l,some h=>if 0≤l∧l≤h∧h≤s.length then some (.d (.str ((s.take h.toNat).drop l.toNat)),H)else none
   |_,_=>none
  |_=>none
 |.sl z x lo hi mx=>match ρ x with
  |.oslice r off len cap sz=>match optInt ρ 0 lo,optInt ρ len hi,optInt ρ cap mx with
   |some l,some h,some m=>if 0≤l∧l≤h∧h≤m∧m≤cap∧sz=z then
     (if l=h then some (if mx.isSome∧m=l then .fslice []else .d (.slice []),H)
      else some (.oslice r (off+l.toNat*sz) (h-l).toNat (m-l).toNat sz,H))else none
   |_,_,_=>none
  |v=>match v.elems with
   |some xs=>match optInt ρ 0 lo,optInt ρ xs.length hi with
    |some l,some h=>if 0≤l∧l≤h∧h≤xs.length∧QaS z xs=true then match mx with
      |none=>some (.d (.slice ((xs.take h.toNat).drop l.toNat)),H)
      |some m=>if(ρ m).int? =some h then some (.fslice ((xs.take h.toNat).drop l.toNat),H)else none
     else none
    |_,_=>none
   |none=>none
 |.slArr n sz x lo hi=>match ρ x with
  |.ptr r off=>match optInt ρ 0 lo,optInt ρ n hi with
   |some l,some h=>if 0≤l∧l≤h∧h≤n∧off+n*sz≤QkQ H r then
     some (.oslice r (if(n:Int)=l then off else off+l.toNat*sz) (h-l).toNat (n-l.toNat) sz,H)else none
   |_,_=>none
  |_=>none
 |.fieldAddr off x=>match ρ x with
  |.ptr r o=>some (.ptr r (o+off),H)
  |.pref cs=>some (.pref (cs.drop off),H)
  |_=>none
 |.field agg off sz x=>match ρ x with
  |.agg cs=>(readCells agg sz cs off).map (·,H)
  |.d (.agg cs)=>(readD agg sz (cs.drop off)).map fun v=>(.d v,H)
  |_=>none
 |.idxSl sz x i=>match(ρ i).int? with
  |some n=>match ρ x with
   |.oslice r off len _ z=>if 0≤n∧n<len∧z=sz then some (.ptr r (off+n.toNat*sz),H)else none
   |v=>match v.elems with
    |some xs=>if 0≤n then match xs[n.toNat]? with
      |some e=>if e.cells.length=sz then some (.pref e.cells,H)else none
      |none=>none
     else none
    |none=>none
  |none=>none
 |.idxArr n sz x i=>match(ρ i).int?,ρ x with
  |some j,.ptr r off=>if 0≤j∧j<n then some (.ptr r (off+j.toNat*sz),H)else none
  |some j,.pref cs=>if 0≤j∧j<n then some (.pref (cs.drop (j.toNat*sz)),H)else none
  |_,_=>none
 |.idxStr x i=>match(ρ i).int?,ρ x with
  |some j,.d (.str s)=>if 0≤j then(s[j.toNat]?).map fun b=>(.d (Qai b),H)else none
  |_,_=>none
 |.idxAgg n agg sz x i=>match(ρ i).int?,ρ x with
  |some j,.agg cs=>if 0≤j∧j<n then(readCells agg sz cs (j.toNat*sz)).map (·,H)else none
  |some j,.d (.agg cs)=>if 0≤j∧j<n then(readD agg sz (cs.drop (j.toNat*sz))).map fun v=>(.d v,H)else none
  |_,_=>none
 |.lookup kk zero x i ok=>
  match(match ρ x with
   |.mapr r=>match H[r]? with
    |some (.map k2 es)=>if k2=kk then some es else none
    |_=>none
   |.nilmap=>some []
   |_=>none),ρ i with
  |some es,.d k=>if Qcd kk k then match Qgd k es with
    |some v=>some (if ok then .tuple [v,boolD true]else v,H)
    |none=>some (if ok then .tuple [zero,boolD false]else zero,H)
   else none
  |_,_=>none
 |.mapSet kk m k v=>match ρ m,ρ k with
  |.mapr r,.d key=>match H[r]? with
   |some (.map k2 es)=>if lim≤r∧k2=kk∧Qcd kk key then some (.tuple [],H.set r (.map kk (QlJ key (ρ v).unf es)))else none
   |_=>none
  |_,_=>none
 |.rngStr x=>match ρ x with
  |.d (.str s)=>some (.ptr H.length 0,H++ [.siter s 0])
  |_=>none
 |.nextStr x=>match ρ x with
  |.ptr r 0=>match H[r]? with
   |some (.siter s pos)=>if lim≤r then
     (if pos<s.length then
       some (.tuple [boolD true,intD pos,.d (.int .i32 (dec s pos).1)],H.set r (.siter s (pos+(dec s pos).2)))
      else some (.tuple [boolD false],H))else none
   |_=>none
  |_=>none
 |.extract x i=>match ρ x with
  |.tuple vs=>(vs[i]?).map (·,H)
  |_=>none
 |.len k x=>match k,ρ x with
  |.str,.d (.str s)=>some (intD s.length,H)
  |.sl,.oslice _ _ n _ _=>some (intD n,H)
  |.sl,v=>v.elems.map fun xs=>(intD xs.length,H)
  |.map,.nilmap=>some (intD 0,H)
  |.map,.mapr r=>match H[r]? with
   |some (.map _ es)=>some (intD es.length,H)
   |_=>none
  |_,_=>none
 |.append sz bytes str x y=>match ρ x with
  |.fslice xs=>match srcOf str (sz !=1) H (ρ y)with
   |some ys=>if(xs.length+ys.length)*(bytes+sz)≤70368744177664∧QaS sz xs=true∧QaS sz ys=true then some (.fslice (xs++ys),H)else none
   |none=>none
  |_=>none
 |.appendO sz bytes str x y=>match srcC str sz H (ρ y)with
  |some (k,ys)=>if k=0 then(if(ρ x).growable then some (ρ x,H)else none)else match ρ x with
   |.fslice []=>if k*(bytes+sz)≤70368744177664 then some (.oslice H.length 0 k k sz,H++ [.cells ys])else none
   |.oslice r 0 len _ z=>match H[r]? with
    |some (.cells cs)=>if lim≤r∧z=sz∧len*sz≤cs.length∧(len+k)*(bytes+sz)≤70368744177664 then
      some (.oslice H.length 0 (len+k) (len+k) sz,H.set r .dead++ [.cells ((cs.take (len*sz)).map AV.unf++ys)])else none
    |_=>none
   |_=>none
  |none=>none
 |.copy sz str x y=>match ρ x with
  |.oslice r off len _ z=>match srcOf str (sz !=1) H (ρ y),H[r]? with
   |some ys,some (.cells cs)=>
    if lim≤r∧z=sz∧off+(min ys.length len)*sz≤cs.length∧QaS sz ys=true then
     some (intD ((min ys.length len:Nat):Int),H.set r (.cells (splice cs off (((ys.take (min ys.length len)).flatMap D.cells).map .d))))
    else none
   |_,_=>none
  |_=>none
 |.minI xs=>(QhH (fun x y=>if y<x then y else x) (xs.map ρ)).map fun d=>(.d d,H)
 |.maxI xs=>(QhH (fun x y=>if y>x then y else x) (xs.map ρ)).map fun d=>(.d d,H)
 |.delete kk m k=>match ρ m,ρ k with
  |.mapr r,.d key=>match H[r]? with
   |some (.map k2 es)=>if lim≤r∧k2=kk∧Qcd kk key then some (.tuple [],H.set r (.map kk (delE key es)))else none
   |_=>none
  |.nilmap,.d key=>if Qcd kk key then some (.tuple [],H)else none
  |_,_=>none
 |.call f args=>E f lim (args.map ρ) H
 |.callV f args=>match ρ f with
  |.func (.func g) caps=>E g lim (args.map ρ++caps) H
  |_=>none
 |.panic _=>none
def unflag(T:List AV):List Nat→List AV
 | []=>T
 |n::ns=>unflag (T.set n (T.getD n .undef).unf) ns
def put(T:List AV):Option Nat→AV→List AV
 |none,_=>T
 |some n,v=>T.set n v
def wanted(T:List AV):Option (Nat×Bool)→Option Bool
 |none=>some true
 |some (t,want)=>match T.getD t .undef with
  |.d (.bool b)=>some (b==want)
  |.tuple []=>some false
  |_=>none
section
variable (E:Qa0) (lim:Nat)
def stepOp(o:COper)(st:St):Option St:=
 match wanted st.T o.guard with
 |some true=>match aop E lim st.H (evx st.T o.cons) o.op with
  |some (v,H)=>some ⟨put (unflag st.T o.cons) o.dst v,H⟩
  |none=>none
 |some false=>some ⟨put st.T o.dst (.tuple []),st.H⟩
 |none=>none
def runOps:List COper→St→Option St
 | [],st=>some st
 |o::os,st=>match stepOp E lim o st with
  |some st'=>runOps os st'
  |none=>none
structure Rec where
 o:COper
 T:List AV
 v:Option AV
 deriving Inhabited
def stepRec(o:COper)(st:St):Option (Rec×St):=
 match wanted st.T o.guard with
 |some true=>match aop E lim st.H (evx st.T o.cons) o.op with
  |some (v,H)=>some (⟨o,st.T,some v⟩,⟨put (unflag st.T o.cons) o.dst v,H⟩)
  |none=>none
 |some false=>some (⟨o,st.T,none⟩,⟨put st.T o.dst (.tuple []),st.H⟩)
 |none=>none
def traceOps:List COper→St→Option (List Rec×St)
 | [],st=>some ([],st)
 |o::os,st=>match stepRec E lim o st with
  |some (r,st')=>match traceOps os st' with
   |some (rs,st'')=>some (r::rs,st'')
   |none=>none
  |none=>none
def runAt(recs:List Rec)(i:Nat)(H:Qab):Option Qab:=
 match recs[i]? with
 |some ⟨o,T,some v⟩=>match aop E lim H (evx T o.cons) o.op with
  |some (v',H')=>if AV.beq v' v then some H' else none
  |none=>none
 |some ⟨_,_,none⟩=>some H
 |none=>none
def mayStand(c:Chk)(S:List Nat)(r:Nat):Bool:=
 c.es.all fun e=>(!c.anc.contains (r,e)||S.contains e)&&(!c.anc.contains (e,r)|| !S.contains e)
def explore(recs:List Rec)(c:Chk)(Hf:Qab):Nat→List Nat→Qab→Bool
 |0,_,_=>false
 |k+1,S,h=>
  (c.rs.all fun r=> !mayStand c S r||(runAt E lim recs r h).isSome)&&
  (if(c.es.all fun e=>S.contains e)then Qcs h Hf
   else c.es.all fun e=>S.contains e|| !(c.es.all fun e'=>S.contains e'|| !c.anc.contains (e,e'))||
    match runAt E lim recs e h with
    |some h'=>explore recs c Hf k (e::S) h'
    |none=>false)
def inertRec:Rec→Bool
 |⟨_,_,none⟩=>true
 |⟨o,T,some v⟩=>match o.op with
  |.buildSl .. =>match v with
   |.fslice _=>true
   |_=>false
  |.buildLit .. =>true
  |.sameSl _=>true
  |.append _ _ _ _ y=>match evx T o.cons y with
   |.oslice .. =>false
   |_=>true
  |_=>false
def inertAt(recs:List Rec)(i:Nat):Bool:=match recs[i]? with
 |some r=>inertRec r
 |none=>false
def thin(recs:List Rec)(c:Chk):Chk:=⟨c.es.filter fun i=> !inertAt recs i,c.rs,c.anc,c.plan⟩
def chainOK(recs:List Rec):List (List Nat×Option Nat)→Qab→Bool
 | [],_=>true
 |(rs,oe)::rest,h=>(rs.all fun r=>(runAt E lim recs r h).isSome)&&match oe with
  |none=>true
  |some e=>match runAt E lim recs e h with
   |some h'=>chainOK recs rest h'
   |none=>false
def drawOK(recs:List Rec)(c:Chk)(h Hf:Qab):Bool:=match c.plan with
 |some p=>chainOK E lim recs p h
 |none=>explore E lim recs (thin recs c) Hf ((thin recs c).es.length+1) [] h
def forgetT(T:List AV):List Nat→List AV
 | []=>T
 |n::ns=>forgetT (T.set n .undef) ns
def evalR(ops:List COper)(chk:Option Chk)(forget:List Nat)(st:St):Option St:=
 match chk with
 |none=>match runOps E lim ops st with
  |some st'=>some ⟨forgetT st'.T forget,st'.H⟩
  |none=>none
 |some c=>match traceOps E lim ops st with
  |some (recs,st')=>if drawOK E lim recs c st.H st'.H then some ⟨forgetT st'.T forget,st'.H⟩else none
  |none=>none
variable (L:(St→Option (St ⊕(AExit×St)))→St→Option (AExit×St))
def QdJ:List AV→List AV→List AV
 |x::xs,y::ys=>(if AV.beq x y then x else .undef)::QdJ xs ys
 |_,_=> []
def QiD(s1 s2:AExit×St):Option (AExit×St):=
 if s1.1=s2.1∧s1.2.T.length=s2.2.T.length∧Qcs s1.2.H s2.2.H=true then some (s1.1,⟨QdJ s1.2.T s2.2.T,s1.2.H⟩)else none
def evalC:CCode→St→Option (AExit×St)
 |.skip,st=>some (.normal,st)
 |.region ops chk forget,st=>match evalR E lim ops chk forget st with
  |some st'=>some (.normal,st')
  |none=>none
 |.seq a b,st=>match evalC a st with
  |some (.normal,st')=>evalC b st'
  |r=>r
 |.cond c a b,st=>match evx st.T [] c with
  |.d (.bool t)=>if t then evalC a st else evalC b st
  |.ubool=>match evalC a st,evalC b st with
   |some s1,some s2=>QiD s1 s2
   |_,_=>none
  |_=>none
 |.block id a,st=>match evalC a st with
  |some (.exit i,st')=>if i=id then some (.normal,st')else some (.exit i,st')
  |r=>r
 |.loop a,st=>L (fun s=>match evalC a s with
  |some (.normal,s')=>some (.inl s')
  |some r=>some (.inr r)
  |none=>none) st
 |.exit id,st=>some (.exit id,st)
 |.ret,st=>some (.ret,st)
end
mutual
def freeze(H:Qab)(base:Nat):AV→Option AV
 |.undef=>some .undef
 |.d x=>some (.d x)
 |.fslice xs=>some (.fslice xs)
 |.lit xs=>some (.d (.slice xs))
 |.pref cs=>some (.pref cs)
 |.oslice r off len _ sz=>if base≤r∧0<sz then match H[r]? with
    |some (.cells cs)=>if off+len*sz≤cs.length then(chunks sz (sz !=1) len (cs.drop off)).map fun xs=> .d (.slice xs)else none
    |_=>none
    else none
 |.agg cs=>match QeE H base cs with
  |some vs=>some (AV.mkAgg vs)
  |none=>none
 |.tuple vs=>(QeE H base vs).map .tuple
 |.nilmap=>some .nilmap
 |.nilfunc=>some .nilfunc
 |.niliface=>some .niliface
 |.iface t v=>(freeze H base v).map fun w=> .iface t w.unf
 |.ptr _ _|.mapr _|.func _ _|.ubool=>none
def QeE(H:Qab)(base:Nat):List AV→Option (List AV)
 | []=>some []
 |v::vs=>match freeze H base v,QeE H base vs with
  |some x,some xs=>some (x.unf::xs)
  |_,_=>none
end
def Qbw(T:List AV)(H:Qab):List CRes→Option (List AV)
 | []=>some []
 |.t n::rs=>(Qbw T H rs).map fun vs=>T.getD n .undef::vs
 |.cell n agg sz::rs=>match T.getD n .undef with
  |.ptr r off=>match H[r]? with
   |some (.cells cs)=>match readCells agg sz cs off,Qbw T H rs with
    |some v,some vs=>some (v::vs)
    |_,_=>none
   |_=>none
  |_=>none
def QbD:List AV→AV
 | [v]=>v
 |vs=> .tuple (vs.map AV.unf)
section
variable (E:Qa0)
variable (L:(St→Option (St ⊕(AExit×St)))→St→Option (AExit×St))
def Qfb(fn:CFn)(lim:Nat)(args:List AV)(H:Qab):Option (AV×Qab):=
 if args.length=fn.nargs then
  match evalC E (if fn.keep then lim else H.length) L fn.body ⟨args++List.replicate (fn.ntmps-args.length) (.tuple []),H⟩with
  |some (.exit _,_)=>none
  |some (_,st)=>match Qbw st.T st.H fn.res with
   |some vs=>if fn.keep then some (QbD vs,st.H)else(freeze st.H H.length (QbD vs)).map (·,H)
   |none=>none
  |none=>none
 else none
end
def Qas{σ ρ:Type}(body:σ→Option (σ ⊕ρ)):Nat→σ→Option ρ
 |0,_=>none
 |n+1,s=>match body s with
  |some (.inl s')=>Qas body n s'
  |some (.inr r)=>some r
  |none=>none
mutual
def scB(n:Nat):AV→Bool
 |.ptr r _=>decide (r<n)
 |.oslice r _ _ _ _=>decide (r<n)
 |.mapr r=>decide (r<n)
 |.agg cs=>scBs n cs
 |.tuple cs=>scBs n cs
 |.func _ cs=>scBs n cs
 |.iface _ a=>scB n a
 |.undef|.d _|.fslice _|.lit _|.pref _|.nilmap|.nilfunc|.niliface|.ubool=>true
def scBs(n:Nat):List AV→Bool
 | []=>true
 |a::as=>scB n a&&scBs n as
end
def scO(n:Nat):AObj→Bool
 |.cells cs=>scBs n cs
 |.map _ es=>scBs n (es.map (·.2))
 |_=>true
def cutF(F:Qba):Qba:=fun lim args H=>match F lim args H,args with
 |some (v,H'),.ptr r 0::_=>match H'[r]?,freeze H' H.length v with
  |some o,some v'=>if r<H.length∧scO H.length o=true∧Qcs (H'.take H.length) (H.set r o)=true then some (v',H.set r o)else none
  |_,_=>none
 |_,_=>none
def QgC [Tab](f:FuncId)(F:Qba):Qba:=if Tab.cut f then cutF F else F
def QaE [Tab](code:FuncId→Option CFn)(prim:FuncId→Option Qba):Nat→Qa0
 |0=>fun _ _ _ _=>none
 |k+1=>fun f=>match prim f with
  |some F=>F
  |none=>match code f with
   |some fn=>QgC f (Qfb (QaE code prim k) (Qas · k) fn)
   |none=>fun _ _ _=>none
end Go.Abs
namespace Go.Abs
variable [Tab]
def opd:Operand→Option Opd
 |.tmp t=>some (.t t)
 |.const v=>some (.c (absC v))
 |.global n=>(Tab.tab n).map fun cs=> .c (.pref cs)
 |.func f=>some (.c (.func (.func f) []))
def opds:List Operand→Option (List Opd)
 | []=>some []
 |x::xs=>match opd x,opds xs with
  |some y,some ys=>some (y::ys)
  |_,_=>none
def Qc9:Option Operand→Option (Option Opd)
 |none=>some none
 |some x=>(opd x).map some
def isAggT(P:Program)(t:TypeId):Bool:=
 match P.underlying t with
 |some (.struct _)|some (.array _ _)=>true
 |_=>false
def QaX(P:Program)(t:TypeId):Option Nat:=(P.info? t).map (·.size)
def Qee(P:Program)(t:TypeId):Option Nat:=(P.info? t).map (·.bytes)
def QdD(P:Program)(t:TypeId):Option AV:=((P.info? t).bind (·.zero)).map absC
def plainT(P:Program)(t:TypeId):Bool:=
 match P.underlying t with
 |some (.int _)|some .string|some .bool=>true
 |_=>false
def Qm0(P:Program)(t:TypeId):Option KK:=
 match P.underlying t with
 |some (.int k)=>some (.int k)
 |some .string=>some .str
 |some .bool=>some .bool
 |_=>none
def fkOf(P:Program)(t:TypeId):Option FK:=
 match P.underlying t with
 |some (.int _)=>some .int
 |some .string=>some .str
 |some .bool=>some .bool
 |_=>none
def Qcg(P:Program):Nat→List Field→Option (List FK)
 |_,[]=>some []
 |i,f::fs=>match fkOf P f.type,Qcg P (i+1) fs with
  |some k,some ks=>if f.name != "_" &&QaX P f.type==some 1&&f.offset==i then some (k::ks)else none
  |_,_=>none
def Qht(P:Program)(t:TypeId):Option (List FK):=
 match P.underlying t with
 |some (.struct fs)=>if !P.stoodInHeld t&& !P.eqGuardType P.depth t then Qcg P 0 fs.toList else none
 |_=>none
def QdR:Operand→List Nat
 |.tmp t=> [t]
 |_=> []
def Qat(o:Oper):List Nat:=
 match o.op with
 |.assign x=>QdR x
 |.store _ _ v=>QdR v
 |.call { callee:= .builtin .append,args,.. }=>match args.toList with
  |x::_=>QdR x
  | []=> []
 |.call { callee:= .value (.func f),args,.. }=>if Tab.tak f then(match args.toList with
  |x::_=>QdR x
  | []=> [])else []
 |_=> []
def Qap(ops:List Oper)(o:Oper):List Nat:=
 match o.op with
 |.move x=>match o.dst with
  |some d=>if ops.any fun p=>(Qat p).contains d then QdR x else []
  |none=> []
 |_=>Qat o
def takes(ops:List Oper)(o:Oper):Bool:=
 match o.dst with
 |some d=>ops.any fun p=>match p.op with
  |.call { callee:= .builtin .append,args,.. }=>match args.toList with
   |.tmp t::_=>t==d
   |_=>false
  |.call { callee:= .value (.func f),args,.. }=>match args.toList with
   |.tmp t::_=>t==d&&Tab.tak f
   |_=>false
  |_=>false
 |none=>false
def isLit(ops:List Oper)(o:Oper):Bool:=
 match o.dst with
 |some d=>ops.any fun p=>match p.op with
  |.convert s t (.tmp x)=>s==t&&x==d
  |_=>false
 |none=>false
def QjL(P:Program)(t:TypeId):Option TypeId:=
 match P.underlying t with
 |some (.slice e)=>some e
 |_=>none
def QfY(P:Program)(t:TypeId):Bool:=
 match P.underlying t with
 |some .string=>true
 |_=>false
def isU8(P:Program)(t:TypeId):Bool:=
 match P.underlying t with
 |some (.int .u8)=>true
 |_=>false
def QdY(P:Program):List Field→Option (List (Nat×Nat))
 | []=>some []
 |f::fs=>match QaX P f.type,QdY P fs with
  |some s,some ps=>some ((f.offset,s)::ps)
  |_,_=>none
def QdG(place:Nat→Option (Nat×Nat)):List (Nat×Operand)→Option (List (Nat×Nat×Opd))
 | []=>some []
 |(i,x)::ps=>match place i,opd x,QdG place ps with
  |some (o,s),some y,some qs=>some ((o,s,y)::qs)
  |_,_,_=>none
def Qer:List (Nat×Operand)→Option (List (Nat×Opd))
 | []=>some []
 |(i,x)::ps=>match opd x,Qer ps with
  |some y,some qs=>some ((i,y)::qs)
  |_,_=>none
def Qbg(P:Program)(t:TypeId)(parts:List (Nat×Operand)):Option COp:=
 match QdD P t,P.underlying t with
 |some zero,some (.struct fs)=>match QdY P fs.toList with
  |some pl=>if zero.cells.all AV.isCell then(QdG (pl[·]?) parts).map (.build zero.cells)else none
  |none=>none
 |some zero,some (.array _ e)=>match QaX P e with
  |some s=>if zero.cells.all AV.isCell then(QdG (fun i=>some (i*s,s)) parts).map (.build zero.cells)else none
  |none=>none
 |_,_=>none
def QeK(P:Program):List Operand→List TypeId→Option COp
 | [x],[t]=>match P.underlying t with
   |some .string=>(opd x).map (.len .str)
   |some (.slice _)=>(opd x).map (.len .sl)
   |some (.map _ _)=>(opd x).map (.len .map)
   |_=>none
 |_,_=>none
def srcT(P:Program)(u:TypeId)(s:Nat):Bool:=
 match P.underlying u with
 |some .string=>s==1
 |some (.slice _)=>true
 |_=>false
def isPtrT(P:Program)(t:TypeId):Bool:=
 match P.underlying t with
 |some (.pointer _)=>true
 |_=>false
def Qb0(P:Program)(mt:Bool):List Operand→List TypeId→Option COp
 | [x,y],[t,u]=>
   match QjL P t with
   |some e=>match QaX P e,Qee P e,QdD P e,opd x,opd y with
    |some s,some b,some z,some x,some y=>
     if srcT P u s&&(s !=1)==isAggT P e&&0<s&&z.cells.all AV.isCell&&z.cells.length==s then some (if mt||isPtrT P e then .appendO s b (QfY P u) x y else .append s b (QfY P u) x y)else none
    |_,_,_,_,_=>none
   |none=>none
 |_,_=>none
def QdL(P:Program):List Operand→List TypeId→Option COp
 | [x,y],[t,u]=>
   match QjL P t with
   |some e=>match QaX P e,opd x,opd y with
    |some s,some x,some y=>if 0<s&&(s !=1)==isAggT P e&&srcT P u s then some (.copy s (QfY P u) x y)else none
    |_,_,_=>none
   |none=>none
 |_,_=>none
def QcT(P:Program):List Operand→List TypeId→Option COp
 | [m,k],[t,_]=>match P.underlying t with
   |some (.map kt _)=>match Qm0 P kt,opd m,opd k with
    |some kk,some m,some k=>some (.delete kk m k)
    |_,_,_=>none
   |_=>none
 |_,_=>none
def QaM(P:Program)(mt:Bool)(b:Builtin)(args:List Operand)(ts:List TypeId):Option COp:=
 match b with
 |.len=>QeK P args ts
 |.append=>Qb0 P mt args ts
 |.copy=>QdL P args ts
 |.min=>(opds args).map .minI
 |.max=>(opds args).map .maxI
 |.delete=>QcT P args ts
 |_=>none
def QlY:List Operand→Bool
 |x::xs=>xs.all fun y=>(QdR y).all fun t=> !(QdR x).contains t
 | []=>true
def Qaw(P:Program)(mt:Bool)(c:Call):Option COp:=
 match c.callee with
 |.value (.func f)=>if !Tab.tak f||QlY c.args.toList then(opds c.args.toList).map fun aa=> .call f aa else none
 |.value (.tmp t)=>(opds c.args.toList).map fun aa=> .callV (.t t) aa
 |.value _=>none
 |.invoke _ _=>none
 |.builtin b=>QaM P mt b c.args.toList c.argTypes.toList
def Qaf(P:Program)(tk:FuncId→Nat→Bool)(ops:List Oper)(o:Oper):Option COp:=
 match o.op with
 |.move x|.assign x=>(opd x).map .move
 |.pick c a b=>do pure (.pick (←opd c) (←opd a) (←opd b))
 |.alloc e=>do
  let z←QdD P e
  if z.cells.all AV.isCell then pure (.new z.cells)else none
 |.box _ x=>do pure (.box (←opd x))
 |.build t parts=>Qbg P t parts.toList
 |.buildSlice t len parts=>do
  let e←QjL P t
  let s←QaX P e
  let z←QdD P e
  let ps←Qer parts.toList
  if 0<s&&len*s≤16777216&&(s !=1)==isAggT P e&&z.cells.all AV.isCell&&z.cells.length==s then pure (if isLit ops o then .buildLit s z len ps else .buildSl s z len ps)else none
 |.load t a=>do
  let s←QaX P t
  let a←opd a
  if(P.underlying t).isSome then
   (if takes ops o&& !isAggT P t then pure (.loadTake a)else pure (.load (isAggT P t) s a))
  else none
 |.store t a v=>do pure (.store (←QaX P t) (←opd a) (←opd v))
 |.nilCheck x=>(opd x).map .nilCheck
 |.binOp op t x y _=>do
  let a←opd x
  let b←opd y
  match P.underlying t with
  |some (.slice _)=>match op,x,y with
   |.eql,_,.const (.slice none 0 0)=>pure (.nilSl false a)
   |.neq,_,.const (.slice none 0 0)=>pure (.nilSl true a)
   |_,_,_=>none
  |some (.interface _)=>if(x matches .const _)||(y matches .const _)then pure (.bin op .iface a b)else none
  |some (.pointer _)=>pure (.bin op .ptr a b)
  |some (.map _ _)=>pure (.bin op .map a b)
  |some (.func _ _ _)=>pure (.bin op .func a b)
  |some .bool=>pure (.bin op .bool a b)
  |some (.struct _)=>match Qht P t with
   |some n=>pure (.bin op (.plain n) a b)
   |none=>none
  |some _=>pure (.bin op .none a b)
  |none=>none
 |.unOp op _ x=>do pure (.un op (←opd x))
 |.convert src dst x=>do
  let a←opd x
  match P.underlying src,P.underlying dst with
  |some (.int _),some (.int k)=>pure (.toInt k a)
  |some .string,some .string=>pure (.same a)
  |some (.int _),some .string=>pure (.ofRune a)
  |some (.slice _),some (.slice e)=>if src==dst&&isU8 P e then pure (.sameSl a)else none
  |some .string,some (.slice e)=>if isU8 P e then pure (.toBytes a)else none
  |some (.slice e),some .string=>if isU8 P e then pure (.toStr a)else none
  |_,_=>none
 |.makeInterface t x=>do
  let a←opd x
  match P.underlying t with
  |some (.interface _)=>none
  |some _=>pure (.mkIface t a)
  |none=>none
 |.makeFunc fn first caps=>if first.isEmpty then do pure (.mkFunc fn (←opds caps.toList))else none
 |.makeMap t none=>match P.underlying t with
  |some (.map kt _)=>(Qm0 P kt).map .mkMap
  |_=>none
 |.makeSlice t l c=>do
  let e←QjL P t
  let s←QaX P e
  let b←Qee P e
  let z←QdD P e
  if 0<s&&z.cells.all AV.isCell&&z.cells.length=s then pure (.mkSl s b z.cells (←opd l) (←opd c))else none
 |.slice t x lo hi mx=>do
  let a←opd x
  let l←Qc9 lo
  let h←Qc9 hi
  let m←Qc9 mx
  match P.underlying t with
  |some .string=>if mx.isNone then pure (.slStr a l h)else none
  |some (.slice e)=>if mx.isNone||hi.isSome then pure (.sl (←QaX P e) a l h m)else none
  |some (.array n e)=>if mx.isNone then pure (.slArr n (←QaX P e) a l h)else none
  |_=>none
 |.fieldAddr s x f=>
  match P.underlying s with
  |some (.struct fs)=>do
   let g←fs.toList[f]?
   let z←QaX P g.type
   if z=0 then none else pure (.fieldAddr g.offset (←opd x))
  |_=>none
 |.field s x f=>
  match P.underlying s with
  |some (.struct fs)=>do
   let g←fs.toList[f]?
   if(P.underlying g.type).isSome then pure (.field (isAggT P g.type) g.offset (←QaX P g.type) (←opd x))else none
  |_=>none
 |.indexAddr t x i=>do
  let a←opd x
  let j←opd i
  match P.underlying t with
  |some (.slice e)=>do
   let s←QaX P e
   if s=0 then none else pure (.idxSl s a j)
  |some (.array n e)=>do pure (.idxArr n (←QaX P e) a j)
  |_=>none
 |.index t x i=>do
  let a←opd x
  let j←opd i
  match P.underlying t with
  |some .string=>pure (.idxStr a j)
  |some (.array n e)=>if(P.underlying e).isSome then do pure (.idxAgg n (isAggT P e) (←QaX P e) a j)else none
  |_=>none
 |.lookup t x i ok=>do
  let a←opd x
  let j←opd i
  match P.underlying t with
  |some (.map k e)=>do pure (.lookup (←Qm0 P k) (←QdD P e) a j ok)
  |_=>none
 |.mapUpdate t m k v|.insert t m k v=>do
  let a←opd m
  let j←opd k
  let b←opd v
  match P.underlying t with
  |some (.map kt _)=>do pure (.mapSet (←Qm0 P kt) a j b)
  |_=>none
 |.range t x=>if QfY P t then(opd x).map .rngStr else none
 |.next x isString=>if isString then(opd x).map .nextStr else none
 |.extract x i=>(opd x).map fun a=> .extract a i
 |.call c=>Qaw P (tk 0 0) c
 |.panic x=>(opd x).map .panic
 |_=>none
def QbB:COp→Nat
 |.load .. |.lookup .. |.len .. |.toStr _|.slArr .. =>1
 |.new _|.box _|.buildSl .. |.buildLit .. |.loadTake _|.store .. |.mkMap _|.mkSl .. |.mapSet .. |.rngStr _|.nextStr _|.sameSl _|.append .. |.appendO .. |.copy .. |.delete .. |.call .. |.callV .. =>2
 |_=>0
def Opd.slots:Opd→List Nat
 |.t n=> [n]
 |.c _=> []
def COp.opds:COp→List Opd
 |.move x|.box x|.nilCheck x|.nilSl _ x|.un _ x|.toInt _ x|.same x|.sameSl x|.toBytes x|.toStr x|.ofRune x|.mkIface _ x|.loadTake x
 |.fieldAddr _ x|.field _ _ _ x|.rngStr x|.nextStr x|.extract x _|.len _ x|.load _ _ x|.panic x=> [x]
 |.pick a b c=> [a,b,c]
 |.new _|.mkMap _=> []
 |.build _ ps=>ps.map (·.2.2)
 |.buildSl _ _ _ ps|.buildLit _ _ _ ps=>ps.map (·.2)
 |.store _ a v=> [a,v]
 |.bin _ _ x y|.append _ _ _ x y|.appendO _ _ _ x y|.copy _ _ x y=> [x,y]
 |.mkFunc _ cs=>cs
 |.mkSl _ _ _ l c=> [l,c]
 |.slStr x lo hi=>x::(lo.toList++hi.toList)
 |.sl _ x lo hi mx=>x::(lo.toList++hi.toList++mx.toList)
 |.slArr _ _ x lo hi=>x::(lo.toList++hi.toList)
 |.idxSl _ x i|.idxArr _ _ x i|.idxStr x i|.idxAgg _ _ _ x i|.lookup _ _ x i _=> [x,i]
 |.mapSet _ m k v=> [m,k,v]
 |.minI xs|.maxI xs=>xs
 |.delete _ m k=> [m,k]
 |.call _ aa=>aa
 |.callV f aa=>f::aa
def COper.reads(o:COper):List Nat:=o.op.opds.flatMap Opd.slots++(match o.guard with|some (t,_)=> [t]|none=> [])
def Qal(P:Program)(tk:FuncId→Nat→Bool)(ops:List Oper)(o:Oper):Option COper:=do
 let op←Qaf P tk ops o
 match o.guard with
 |none=>pure ⟨o.dst,op,none,Qap ops o⟩
 |some (j,want)=>do
  let p←ops[j]?
  let t←p.dst
  pure ⟨o.dst,op,some (t,want),Qap ops o⟩
def ancB(bits:Array Nat)(j i:Nat):Bool:=(bits.getD j 0).testBit i
def sharesSlot(x y:COper):Bool:=
 (match x.dst with|some d=>y.reads.contains d|none=>false)||
 (match y.dst with|some d=>x.reads.contains d|none=>false)||
 (match x.dst,y.dst with|some d,some e=>d==e|_,_=>false)||
 x.cons.any fun t=>y.cons.contains t
def Qji(bits:Array Nat)(cs:List COper):Bool:=
 (cs.all fun c=>c.cons.all fun t=>c.reads.contains t)&&
 cs.zipIdx.all fun(y,j)=>cs.zipIdx.all fun(x,i)=>j≤i|| !sharesSlot x y||ancB bits j i
def QaH(cs:List COper)(k:Nat):List Nat:=(List.range cs.length).filter fun i=>match cs[i]? with
 |some c=>QbB c.op==k
 |none=>false
def QmQ(bits:Array Nat)(es rs:List Nat)(m:Nat):List Nat:=
 rs.filter fun r=>(es.all fun e=>(!ancB bits r e||decide (e<m))&&(!ancB bits e r|| !decide (e<m)))&& !(es.all fun e=>decide (e<m)==decide (e<r))
def QdX(look:Nat→List Nat)(n:Nat):List Nat→List (List Nat×Option Nat)
 | []=>if(look n).isEmpty then []else [(look n,none)]
 |e::es=>match QdX look n es with
  | []=>if(look e).isEmpty then []else [(look e,none)]
  |q::rest=>(look e,some e)::q::rest
def QjR(bits:Array Nat)(cs:List COper):Option Chk:=
 let es:=QaH cs 2
 let rs:=QaH cs 1
 if(es.all fun j=>es.all fun i=>j≤i||ancB bits j i)then
  (if(rs.all fun r=>es.all fun e=>if e<r then ancB bits r e else ancB bits e r)then none
   else some ⟨[],[],[],some (QdX (QmQ bits es rs) cs.length es)⟩)
 else some ⟨es,rs,(es++rs).flatMap fun j=>((es++rs).filter fun i=>ancB bits j i).map fun i=>(j,i),none⟩
def Qgh(ops:List Oper):Bool:=ops.zipIdx.all fun(o,i)=>o.after.toList.all fun e=> !Region.binds .any e||decide (e.on<i)
def QaI(P:Program)(tk:FuncId→Nat→Bool)(kp:List Nat)(ops:Array Oper)(draw:Bool):Option CCode:=do
 let cs←ops.toList.mapM (Qal P tk ops.toList)
 let fg:=(cs.filterMap (·.dst)).filter fun d=> !kp.contains d
 if draw then
  let bits:=Region.before ops
  if Qji bits cs&&Qgh ops.toList then pure (.region cs (QjR bits cs) fg)else none
 else pure (.region cs none fg)
def QmP(c:Code)(a b:CCode):CCode:=
 match c,a with
 |.seq (.region ..) (.cond ..),.seq r (.cond o x y)=>if x.outs then .seq r (.cond o x (.seq y b))else .seq a b
 |_,_=> .seq a b
def Qac(P:Program)(tk:FuncId→Nat→Bool)(kp:List Nat):Code→Option CCode
 |.skip=>some .skip
 |.region _ ops draw=>QaI P tk kp ops draw
 |.seq a b=>do pure (QmP a (←Qac P tk kp a) (←Qac P tk kp b))
 |.cond c a b=>do pure (.cond (←opd c) (←Qac P tk kp a) (←Qac P tk kp b))
 |.block id a=>do pure (.block id (←Qac P tk kp a))
 |.loop a=>do pure (.loop (←Qac P tk kp a))
 |.exit id=>some (.exit id)
 |.ret=>some .ret
 |.label _=>some .skip
 |.scope a=>Qac P tk kp a
 |_=>none
def QaO(P:Program):List ResultVar→Option (List CRes)
 | []=>some []
 |.tmp t::rs=>(QaO P rs).map fun xs=> .t t::xs
 |.cell a t::rs=>do
  let s←QaX P t
  let xs←QaO P rs
  if(P.underlying t).isSome then pure (.cell a (isAggT P t) s::xs)else none
def Qaa(P:Program)(tk:FuncId→Nat→Bool)(keep:Bool)(kp:List Nat)(f:FuncId):Option CFn:=do
 let fn←P.funcs[f]?
 let body←fn.body
 let c←Qac P tk kp body
 let rs←QaO P fn.results.toList
 if fn.name= "runtime.NumGoroutine" then none else
 pure ⟨fn.params.size+fn.nfree,fn.ntmps,keep,c,rs⟩
def Qc2:Code→List (List Nat)×List Nat
 |.region _ ops _=>([(ops.toList.flatMap fun o=>o.dst.toList++(o.op.operands.toList.flatMap QdR)).eraseDups],[])
 |.seq a b=>let x:=Qc2 a;let y:=Qc2 b;(x.1++y.1,x.2++y.2)
 |.cond c a b=>let x:=Qc2 a;let y:=Qc2 b;(x.1++y.1,QdR c++(x.2++y.2))
 |.block _ a=>Qc2 a
 |.loop a=>Qc2 a
 |.scope a=>Qc2 a
 |_=>([],[])
def keptSlots(P:Program)(f:FuncId):List Nat:=
 match P.funcs[f]? with
 |some fn=>match fn.body with
  |some c=>
   let s:=Qc2 c
   let rs:=fn.results.toList.map fun|.tmp t=>t|.cell t _=>t
   ((s.2++rs)++(s.1.flatten.filter fun t=>1<(s.1.filter (·.contains t)).length)).eraseDups
  |none=> []
 |none=> []
end Go.Abs
namespace Go.Abs
inductive Own where
 |free
 |mine
 |out
 |obj (r:Nat)
 |slot (i:Nat)
 |cell (r j:Nat)
 |res
 deriving DecidableEq
structure Gh where
 bd:Nat→Nat
 own:Nat→Own
 rho:Nat→Nat
 rm:Nat→Nat
 n:Nat
def QaL(w:World)(b i:Nat):Option Value:=w.cell? ⟨b,i,none⟩
inductive DR (bd:Nat→Nat) (w:World):D→Value→Prop where
 |int (k:IntKind) (n:Int):DR bd w (.int k n) (.int k n)
 |bool (b:Bool):DR bd w (.bool b) (.bool b)
 |str (l:List UInt8) (s:ByteArray) (h:s.data.toList=l):DR bd w (.str l) (.string s)
 |nilptr:DR bd w .nilptr (.pointer none)
 |slnil:DR bd w (.slice []) (.slice none 0 0)
 |sle (a:Addr) (cap:Nat):DR bd w (.slice []) (.slice (some a) 0 cap)
 |slice (xs:List D) (b off len cap sz:Nat) (vs:Nat→Value) (hlen:len=xs.length) (hcap:len≤cap)
   (hu:∀x∈xs,x.cells.length=sz) (hf:∀x∈xs,∀c∈x.cells,c.isCell=true)
   (hc:∀k,k<xs.length*sz→off+k<bd b∧QaL w b (off+k)=some (vs k))
   (h:∀i j x c,xs[i]? =some x→x.cells[j]? =some c→DR bd w c (vs (i*sz+j))):
   DR bd w (.slice xs) (.slice (some ⟨b,off,none⟩) len cap)
 |agg (cs:List D) (vs:Array Value) (hl:cs.length=vs.size) (hf:∀c∈cs,c.isCell=true)
   (h:∀(i:Nat) c v,cs[i]? =some c→vs[i]? =some v→DR bd w c v):DR bd w (.agg cs) (.agg vs)
def Triv(a:AV)(v:Value):Prop:=∀xs,a= .fslice xs→∃p n,v= .slice p n n
inductive VR (g:Gh) (w:World):AV→Value→Prop where
 |undef (v:Value):VR g w .undef v
 |d (x:D) (v:Value) (h:DR g.bd w x v):VR g w (.d x) v
 |fsl (xs:List D) (v:Value) (h:DR g.bd w (.slice xs) v):VR g w (.fslice xs) v
 |lit (xs:List D) (b:Nat) (n c:Nat) (h:DR g.bd w (.slice xs) (.slice (some ⟨b,0,none⟩) n c)) (ho:g.own b= .mine):VR g w (.lit xs) (.slice (some ⟨b,0,none⟩) n c)
 |ptr (r off:Nat) (h:r<g.n):VR g w (.ptr r off) (.pointer (some ⟨g.rho r,off,none⟩))
 |pref (cs:List D) (b off:Nat) (vs:Nat→Value) (hf:∀c∈cs,c.isCell=true)
   (hc:∀k,k<cs.length→off+k<g.bd b∧QaL w b (off+k)=some (vs k))
   (h:∀k c,cs[k]? =some c→DR g.bd w c (vs k)):VR g w (.pref cs) (.pointer (some ⟨b,off,none⟩))
 |osl (r off len cap cap' sz:Nat) (h:r<g.n) (hc:len≤cap) (hc':cap≤cap') (hr:off+cap'*sz≤g.rm r):VR g w (.oslice r off len cap sz) (.slice (some ⟨g.rho r,off,none⟩) len cap')
 |agg (cs:List AV) (vs:Array Value) (hl:cs.length=vs.size) (hf:∀c∈cs,c.isCell=true)
   (h:∀(i:Nat) c v,cs[i]? =some c→vs[i]? =some v→VR g w c v)
   (ht:∀(i:Nat) c v,cs[i]? =some c→vs[i]? =some v→Triv c v):VR g w (.agg cs) (.agg vs)
 |tuple (cs:List AV) (vs:Array Value) (hl:cs.length=vs.size)
   (h:∀(i:Nat) c v,cs[i]? =some c→vs[i]? =some v→VR g w c v)
   (ht:∀(i:Nat) c v,cs[i]? =some c→vs[i]? =some v→Triv c v):VR g w (.tuple cs) (.tuple vs)
 |mapr (r:Nat) (h:r<g.n):VR g w (.mapr r) (.map (some (g.rho r)))
 |nilmap:VR g w .nilmap (.map none)
 |func (fn:Fn) (cs:List AV) (vs:Array Value) (hl:cs.length=vs.size)
   (h:∀(i:Nat) c v,cs[i]? =some c→vs[i]? =some v→VR g w c v)
   (ht:∀(i:Nat) c v,cs[i]? =some c→vs[i]? =some v→Triv c v):VR g w (.func fn cs) (.func fn #[] vs)
 |nilfunc:VR g w .nilfunc .nilFunc
 |iface (t:TypeId) (a:AV) (v:Value) (h:VR g w a v) (ht:Triv a v):VR g w (.iface t a) (.iface t v)
 |niliface:VR g w .niliface .nilIface
 |ubool (b:Bool):VR g w .ubool (.bool b)
def FOK(g:Gh)(w:World)(loc:Own)(a:AV)(v:Value):Prop:=
 ∀xs,a= .fslice xs→(∃p n,v= .slice p n n)∨
  ∃b off cap sz,v= .slice (some ⟨b,off,none⟩) xs.length cap∧xs≠ []∧(∀x∈xs,x.cells.length=sz)∧g.own b=loc∧g.bd b=off+xs.length*sz∧
   ∃cs e fr,w.heap[b]? =some (.cells cs e fr)∧off+cap*sz≤cs.size∧(fr.1=fr.2∨cs.size≤fr.1)
def OR(g:Gh)(w:World)(r:Nat):AObj→Prop
 |.cells cs=>∃vs e fr,w.heap[g.rho r]? =some (.cells vs e fr)∧(cs.length≤vs.size∧vs.size=g.rm r)∧(fr.1=fr.2∨vs.size≤fr.1)∧
    (∀c∈cs,c.isCell=true)∧∀(j:Nat) c v,cs[j]? =some c→vs[j]? =some v→VR g w c v∧FOK g w (.cell r j) c v
 |.map kk es=>∃ms clk,w.heap[g.rho r]? =some (.map ms clk)∧ms.size=es.length∧
    ∀(i:Nat) k a m,es[i]? =some (k,a)→ms[i]? =some m→DR g.bd w k m.key∧Qcd kk k=true∧VR g w a m.val∧Triv a m.val
 |.siter s pos=>∃s',w.heap[g.rho r]? =some (.stringIter s' pos)∧s'.data.toList=s
 |.dead=>True
def Qco(H:Qab)(r:Nat):Prop:=H[r]? ≠some .dead
variable [Tab]
structure HeapOK (g:Gh) (H:Qab) (w:World):Prop where
 n:g.n=H.length
 own:∀r,r<g.n→Qco H r→g.own (g.rho r)= .obj r∧g.bd (g.rho r)=0
 obj:∀r o,H[r]? =some o→OR g w r o
 new:∀b,w.heap.size≤b→g.own b= .free∧g.bd b=0
 glob:∀n cs,Tab.tab n=some cs→VR g w (.pref cs) (.pointer (some ⟨n,0,none⟩))
structure WF (g:Gh) (w:World) (g':Gh) (w':World):Prop where
 os:w'.os=w.os
 tape:w'.tape=w.tape
 output:w'.output=w.output
 size:w.heap.size≤w'.heap.size
 idle:∀b,b<w.heap.size→(g.own b= .free∨g.own b= .out)→w'.heap[b]? =w.heap[b]? ∧g'.own b=g.own b∧g'.bd b=g.bd b
 stays:∀b i,i<g.bd b→i<g'.bd b∧QaL w' b i=QaL w b i
 n:g.n≤g'.n
 rho:∀r,r<g.n→g'.rho r=g.rho r
 out:∀b,g'.own b= .out→g.own b= .out
 mine:∀b,g.own b= .mine→g'.own b= .mine
 rm:∀r,r<g.n→g'.rm r=g.rm r:=by intros;rfl
theorem WF.refl(g:Gh)(w:World):WF g w g w:=
 ⟨rfl,rfl,rfl,Nat.le_refl _,fun _ _ _=>⟨rfl,rfl,rfl⟩,fun _ _ h=>⟨h,rfl⟩,Nat.le_refl _,fun _ _=>rfl,fun _ h=>h,fun _ h=>h,fun _ _=>rfl⟩
theorem WF.trans{g g' g'':Gh}{w w' w'':World}(h:WF g w g' w')(k:WF g' w' g'' w''):WF g w g'' w'' where
 os:=k.os.trans h.os
 tape:=k.tape.trans h.tape
 output:=k.output.trans h.output
 size:=Nat.le_trans h.size k.size
 idle b hb ho:=by
  obtain⟨h1,h2,h3⟩:=h.idle b hb ho
  obtain⟨k1,k2,k3⟩:=k.idle b (Nat.lt_of_lt_of_le hb h.size) (by rw[h2];exact ho)
  exact⟨k1.trans h1,k2.trans h2,k3.trans h3⟩
 stays b i hi:=by
  obtain⟨h1,h2⟩:=h.stays b i hi
  obtain⟨k1,k2⟩:=k.stays b i h1
  exact⟨k1,k2.trans h2⟩
 n:=Nat.le_trans h.n k.n
 rho r hr:=(k.rho r (Nat.lt_of_lt_of_le hr h.n)).trans (h.rho r hr)
 out b hb:=h.out b (k.out b hb)
 mine b hb:=k.mine b (h.mine b hb)
 rm r hr:=(k.rm r (Nat.lt_of_lt_of_le hr h.n)).trans (h.rm r hr)
theorem DR.mono{bd bd':Nat→Nat}{w w':World}(hs:∀b i,i<bd b→i<bd' b∧QaL w' b i=QaL w b i){x:D}{v:Value}
  (h:DR bd w x v):DR bd' w' x v:=by
 induction h with
 |int k n=>exact .int k n
 |bool b=>exact .bool b
 |str l s h=>exact .str l s h
 |nilptr=>exact .nilptr
 |slnil=>exact .slnil
 |sle a cap=>exact .sle a cap
 |slice xs b off len cap sz vs hlen hcap hu hf hc h ih=>
  refine .slice xs b off len cap sz vs hlen hcap hu hf (fun k hk=> ?_) ih
  obtain⟨h1,h2⟩:=hc k hk
  obtain⟨h3,h4⟩:=hs b _ h1
  exact⟨h3,h4.trans h2⟩
 |agg cs vs hl hf h ih=>exact .agg cs vs hl hf ih
theorem VR.mono{g g':Gh}{w w':World}(hs:∀b i,i<g.bd b→i<g'.bd b∧QaL w' b i=QaL w b i)(hn:g.n≤g'.n)
  (hr:∀r,r<g.n→g'.rho r=g.rho r)(hm:∀b,g.own b= .mine→g'.own b= .mine)(hq:∀r,r<g.n→g'.rm r=g.rm r){a:AV}{v:Value}(h:VR g w a v):VR g' w' a v:=by
 induction h with
 |undef v=>exact .undef v
 |d x v h=>exact .d x v (h.mono hs)
 |fsl xs v h=>exact .fsl xs v (h.mono hs)
 |lit xs b n c h ho=>exact .lit xs b n c (h.mono hs) (hm b ho)
 |ptr r off h=>rw[←hr r h];exact .ptr r off (Nat.lt_of_lt_of_le h hn)
 |pref cs b off vs hf hc h=>
  refine .pref cs b off vs hf (fun k hk=> ?_) (fun k c hk=>(h k c hk).mono hs)
  obtain⟨h1,h2⟩:=hc k hk
  obtain⟨h3,h4⟩:=hs b _ h1
  exact⟨h3,h4.trans h2⟩
 |osl r off len cap cap' sz h hc hc' hz=>rw[←hr r h];exact .osl r off len cap cap' sz (Nat.lt_of_lt_of_le h hn) hc hc' (by rw[hq r h];exact hz)
 |agg cs vs hl hf h ht ih=>exact .agg cs vs hl hf ih ht
 |tuple cs vs hl h ht ih=>exact .tuple cs vs hl ih ht
 |mapr r h=>rw[←hr r h];exact .mapr r (Nat.lt_of_lt_of_le h hn)
 |nilmap=>exact .nilmap
 |func fn cs vs hl h ht ih=>exact .func fn cs vs hl ih ht
 |nilfunc=>exact .nilfunc
 |iface t a v h ht ih=>exact .iface t a v ih ht
 |niliface=>exact .niliface
 |ubool b=>exact .ubool b
theorem WF.vr{g g':Gh}{w w':World}(h:WF g w g' w'){a:AV}{v:Value}(k:VR g w a v):VR g' w' a v:=k.mono h.stays h.n h.rho h.mine h.rm
theorem WF.dr{g g':Gh}{w w':World}(h:WF g w g' w'){x:D}{v:Value}(k:DR g.bd w x v):DR g'.bd w' x v:=k.mono h.stays
theorem VR.unf{g:Gh}{w:World}{a:AV}{v:Value}(h:VR g w a v):VR g w a.unf v:=by
 cases h with
 |fsl xs v h=>exact .d _ _ h
 |_=>first
  |exact .undef _
  |exact .d _ _ ‹_›
  |exact .lit _ _ _ _ ‹_› ‹_›
  |exact .ptr _ _ ‹_›
  |exact .pref _ _ _ _ ‹_› ‹_› ‹_›
  |exact .osl _ _ _ _ _ _ ‹_› ‹_› ‹_› ‹_›
  |exact .agg _ _ ‹_› ‹_› ‹_› ‹_›
  |exact .tuple _ _ ‹_› ‹_› ‹_›
  |exact .mapr _ ‹_›
  |exact .nilmap
  |exact .func _ _ _ ‹_› ‹_› ‹_›
  |exact .nilfunc
  |exact .iface _ _ _ ‹_› ‹_›
  |exact .niliface
  |exact .ubool _
theorem unf_ne(a:AV)(xs:List D):a.unf≠ .fslice xs:=by cases a<;>simp[AV.unf]
theorem Triv.unf(a:AV)(v:Value):Triv a.unf v:=fun xs h=>absurd h (unf_ne a xs)
theorem Triv.d(x:D)(v:Value):Triv (.d x) v:=fun xs h=>by cases h
theorem FOK.unf(g:Gh)(w:World)(loc:Own)(a:AV)(v:Value):FOK g w loc a.unf v:=fun xs h=>absurd h (unf_ne a xs)
theorem FOK.triv{g:Gh}{w:World}{loc:Own}{a:AV}{v:Value}(h:Triv a v):FOK g w loc a v:=fun xs e=> .inl (h xs e)
theorem FOK.ne{g:Gh}{w:World}{loc:Own}{a:AV}{v:Value}(h:∀xs,a≠ .fslice xs):FOK g w loc a v:=fun xs e=>absurd e (h xs)
theorem Qdu{a:AV}(h:a.isCell=true):a.unf.isCell=true:=by cases a<;>simp_all [AV.unf,AV.isCell,D.isCell]
theorem FOK.keep{g g':Gh}{w w':World}{loc:Own}{a:AV}{v:Value}(h:FOK g w loc a v)
  (hb:∀b,g.own b=loc→g'.own b=loc∧g'.bd b=g.bd b∧
    ∀cs e fr,w.heap[b]? =some (.cells cs e fr)→(fr.1=fr.2∨cs.size≤fr.1)→∃cs' fr',w'.heap[b]? =some (.cells cs' e fr')∧cs'.size=cs.size∧(fr'.1=fr'.2∨cs'.size≤fr'.1)):FOK g' w' loc a v:=by
 intro xs e
 rcases h xs e with h|⟨b,off,cap,sz,hv,hne,hu,ho,hbd,cs,el,fr,hh,hsz,hfz⟩
 ·exact .inl h
 ·obtain⟨h1,h2,h3⟩:=hb b ho
  obtain⟨cs',fr',h4,h5,h6⟩:=h3 cs el fr hh hfz
  exact .inr ⟨b,off,cap,sz,hv,hne,hu,h1,h2.trans hbd,cs',el,fr',h4,by omega,h6⟩
theorem Qfq(g:Gh)(w:World)(v:Value):VR g w (Qi2 v) v∧Triv (Qi2 v) v∧(Qi2 v≠ .undef→(Qi2 v).isCell=true):=by
 unfold Qi2
 split
 ·exact⟨.d _ _ (.int _ _),Triv.d _ _,fun _=>rfl⟩
 ·exact⟨.d _ _ (.bool _),Triv.d _ _,fun _=>rfl⟩
 ·exact⟨.d _ _ (.str _ _ rfl),Triv.d _ _,fun _=>rfl⟩
 ·exact⟨.d _ _ .nilptr,Triv.d _ _,fun _=>rfl⟩
 ·exact⟨.fsl _ _ .slnil,fun xs _=>⟨none,0,rfl⟩,fun _=>rfl⟩
 ·exact⟨.nilmap,(fun xs h=>by cases h),fun _=>rfl⟩
 ·exact⟨.nilfunc,(fun xs h=>by cases h),fun _=>rfl⟩
 ·exact⟨.niliface,(fun xs h=>by cases h),fun _=>rfl⟩
 ·exact⟨.undef _,(fun xs h=>by cases h),fun h=>absurd rfl h⟩
end Go.Abs
namespace Go.Abs
open Go.RowKit
variable [Tab]
theorem Qbt(g:Gh)(w:World)(v:Value):VR g w (absC v) v∧Triv (absC v) v:=by
 unfold absC
 split
 ·rename_i cs
  split
  ·rename_i hall
   rw[List.all_eq_true]at hall
   refine⟨.agg _ _ (by simp) hall (fun i c v hc hv=> ?_) (fun i c v hc hv=> ?_),(fun xs h=>by cases h)⟩
   ·simp only[List.getElem?_map,Array.getElem?_toList]at hc
    rw[hv]at hc;simp at hc;subst hc
    exact(Qfq g w v).1
   ·simp only[List.getElem?_map,Array.getElem?_toList]at hc
    rw[hv]at hc;simp at hc;subst hc
    exact(Qfq g w v).2.1
  ·exact⟨.undef _,(fun xs h=>by cases h)⟩
 ·rename_i vs
  split
  ·rename_i he
   have:vs= #[]:=by
    cases vs;simp at he;simp[he]
   subst this
   exact⟨.tuple [] #[] rfl (fun i c v hc=>by simp at hc) (fun i c v hc=>by simp at hc),(fun xs h=>by cases h)⟩
  ·exact⟨.undef _,(fun xs h=>by cases h)⟩
 ·exact⟨(Qfq g w v).1,(Qfq g w v).2.1⟩
structure OpOK (g:Gh) (w:World) (cons:List Nat) (g':Gh) (H':Qab) (w':World) (a:AV) (v:Value):Prop where
 wf:WF g w g' w'
 heap:HeapOK g' H' w'
 vr:VR g' w' a v
 fok:FOK g' w' .res a v
 keep:∀i x u,i∉cons→FOK g w (.slot i) x u→FOK g' w' (.slot i) x u
def EvOK(g:Gh)(w:World)(cons:List Nat)(ρA:Opd→AV)(ρ:Operand→Value):Prop:=
 ∀x y,opd x=some y→VR g w (ρA y) (ρ x)∧(Triv (ρA y) (ρ x)∨∃t,x= .tmp t∧t∈cons∧FOK g w (.slot t) (ρA y) (ρ x))
theorem OpOK.same{g:Gh}{H:Qab}{w:World}{cons:List Nat}{a:AV}{v:Value}(hH:HeapOK g H w)(hv:VR g w a v)(ht:Triv a v):
  OpOK g w cons g H w a v:=
 ⟨WF.refl g w,hH,hv,FOK.triv ht,fun _ _ _ _ h=>h⟩
theorem Qd1{xs:List Operand}{ys:List Opd}(h:opds xs=some ys):ys.length=xs.length∧∀(i:Nat) x y,xs[i]? =some x→ys[i]? =some y→opd x=some y:=by
 induction xs generalizing ys with
 |nil=>simp[opds]at h;subst h;simp
 |cons x xs ih=>
  simp only[opds]at h
  split at h
  ·rename_i y ys' hy hys
   simp at h;subst h
   obtain⟨h1,h2⟩:=ih hys
   refine⟨by simp[h1],fun i x' y' hx hy'=> ?_⟩
   cases i with
   |zero=>simp at hx hy';subst hx hy';exact hy
   |succ i=>simp at hx hy';exact h2 i x' y' hx hy'
  ·simp at h
section blocks
variable {g:Gh} {H:Qab} {w:World}
theorem Qck{r:Nat}{o:AObj}(h:H[r]? =some o)(ho:o≠ .dead):Qco H r:=by
 unfold Qco;rw[h];intro e;injection e with e;exact ho e
theorem HeapOK.rho_lt(h:HeapOK g H w){r:Nat}(hr:r<g.n)(ha:Qco H r):g.rho r<w.heap.size:=by
 rcases Nat.lt_or_ge (g.rho r) w.heap.size with h'|h'
 ·exact h'
 ·have:=(h.new _ h').1;rw[(h.own r hr ha).1]at this;cases this
theorem HeapOK.rho_inj(h:HeapOK g H w){r s:Nat}(hr:r<g.n)(hs:s<g.n)(ha:Qco H r)(hb:Qco H s)(e:g.rho r=g.rho s):r=s:=by
 have h1:=(h.own r hr ha).1
 rw[e,(h.own s hs hb).1]at h1
 injection h1 with h1;exact h1.symm
theorem OR.keep{g':Gh}{w':World}{r:Nat}{o:AObj}(hw:WF g w g' w')(hr:r<g.n)(hb:o≠ .dead→w'.heap[g.rho r]? =w.heap[g.rho r]?)
  (hk:∀j a v,FOK g w (.cell r j) a v→FOK g' w' (.cell r j) a v)(h:OR g w r o):OR g' w' r o:=by
 cases o with
 |cells cs=>
  obtain⟨vs,e,fr,h1,h2,h3,h4,h5⟩:=h
  exact⟨vs,e,fr,by rw[hw.rho r hr,hb (by simp)];exact h1,by rw[hw.rm r hr];exact h2,h3,h4,fun j c v hc hv=>⟨hw.vr (h5 j c v hc hv).1,hk j c v (h5 j c v hc hv).2⟩⟩
 |map kk es=>
  obtain⟨ms,clk,h1,h2,h3⟩:=h
  refine⟨ms,clk,by rw[hw.rho r hr,hb (by simp)];exact h1,h2,fun i k a m hk' hm=> ?_⟩
  obtain⟨a1,a2,a3,a4⟩:=h3 i k a m hk' hm
  exact⟨hw.dr a1,a2,hw.vr a3,a4⟩
 |siter s pos=>
  obtain⟨s',h1,h2⟩:=h
  exact⟨s',by rw[hw.rho r hr,hb (by simp)];exact h1,h2⟩
 |dead=>trivial
theorem heap_alloc(w:World)(o:Obj)(b:Nat)(hb:b<w.heap.size):(w.alloc o).heap[b]? =w.heap[b]? :=Below.heap_alloc w o b hb
theorem QaF(w:World)(o:Obj):(w.alloc o).heap[w.heap.size]? =some o:=by
 show(w.heap.push o)[w.heap.size]? =_
 simp
theorem Qe6(w:World)(o:Obj)(b i:Nat)(hb:b<w.heap.size):QaL (w.alloc o) b i=QaL w b i:=
 World.cell?_alloc_lt _ _ _ hb
theorem Qbh{w w':World}{b:Nat}(h:w'.heap[b]? =w.heap[b]?)(i:Nat):QaL w' b i=QaL w b i:=by
 unfold QaL World.cell?;simp only[h]
theorem HeapOK.bd_lt(h:HeapOK g H w){b i:Nat}(hi:i<g.bd b):b<w.heap.size:=by
 rcases Nat.lt_or_ge b w.heap.size with h'|h'
 ·exact h'
 ·have:=(h.new b h').2;omega
theorem HeapOK.own_lt(h:HeapOK g H w){b:Nat}(hi:g.own b≠ .free):b<w.heap.size:=by
 rcases Nat.lt_or_ge b w.heap.size with h'|h'
 ·exact h'
 ·exact absurd (h.new b h').1 hi
def Gh.fresh(g:Gh)(b:Nat)(o:Own)(k:Nat):Gh:= { g with own:=fun x=>if x=b then o else g.own x,bd:=fun x=>if x=b then k else g.bd x }
def Qb9:Obj→Nat
 |.cells vs _ _=>vs.size
 |_=>0
def Gh.newObj(g:Gh)(b k:Nat):Gh:=
 { g with own:=fun x=>if x=b then .obj g.n else g.own x,rho:=fun r=>if r=g.n then b else g.rho r,rm:=fun r=>if r=g.n then k else g.rm r,n:=g.n+1 }
theorem Qdo(h:HeapOK g H w)(O:Obj)(o:Own)(ho:o≠ .out)(k:Nat):WF g w (g.fresh w.heap.size o k) (w.alloc O) where
 os:=rfl
 tape:=rfl
 output:=rfl
 size:=by simp
 idle b hb _:=by
  have:b≠w.heap.size:=Nat.ne_of_lt hb
  simp[Gh.fresh,this,heap_alloc _ _ _ hb]
 stays b i hi:=by
  have hb:=h.bd_lt hi
  have:b≠w.heap.size:=Nat.ne_of_lt hb
  simp[Gh.fresh,this,hi,Qe6 _ _ _ _ hb]
 n:=Nat.le_refl _
 rho _ _:=rfl
 out b hb:=by
  by_cases e:b=w.heap.size
  ·simp[Gh.fresh,e]at hb;exact absurd hb ho
  ·simpa[Gh.fresh,e]using hb
 mine b hb:=by
  have:b≠w.heap.size:=Nat.ne_of_lt (h.own_lt (by rw[hb];simp))
  simpa[Gh.fresh,this]using hb
theorem Qdt(h:HeapOK g H w)(O:Obj)(o:Own)(k:Nat){loc:Own}(hl:loc≠ .free){a:AV}{v:Value}(hf:FOK g w loc a v):
  FOK (g.fresh w.heap.size o k) (w.alloc O) loc a v:=
 hf.keep fun b hb=>by
  have hlt:b<w.heap.size:=h.own_lt (by rw[hb];exact hl)
  have:b≠w.heap.size:=Nat.ne_of_lt hlt
  refine⟨by simp[Gh.fresh,this,hb],by simp[Gh.fresh,this],fun cs e fr hh hz=>⟨cs,fr,by rw[heap_alloc _ _ _ hlt];exact hh,rfl,hz⟩⟩
theorem QeC(h:HeapOK g H w)(O:Obj)(o:Own)(ho:o≠ .out)(k:Nat):HeapOK (g.fresh w.heap.size o k) H (w.alloc O) where
 n:=h.n
 own r hr ha:=by
  have:g.rho r≠w.heap.size:=Nat.ne_of_lt (h.rho_lt hr ha)
  simpa[Gh.fresh,this]using h.own r hr ha
 obj r ob hob:=by
  have hr:r<g.n:=by
   rw[h.n];exact(List.getElem?_eq_some_iff.1 hob).1
  exact(h.obj r ob hob).keep (Qdo h O o ho k) hr (fun hd=>heap_alloc _ _ _ (h.rho_lt hr (Qck hob hd))) (fun j a v=>Qdt h O o k (by simp))
 new b hb:=by
  simp at hb
  have:b≠w.heap.size:=by omega
  simpa[Gh.fresh,this]using h.new b (by omega)
 glob n cs hn:=(Qdo h O o ho k).vr (h.glob n cs hn)
theorem Qcu(h:HeapOK g H w)(O:Obj):WF g w (g.newObj w.heap.size (Qb9 O)) (w.alloc O) where
 os:=rfl
 tape:=rfl
 output:=rfl
 size:=by simp
 idle b hb _:=by
  have:b≠w.heap.size:=Nat.ne_of_lt hb
  simp[Gh.newObj,this,heap_alloc _ _ _ hb]
 stays b i hi:=by
  have hb:=h.bd_lt hi
  simp[Gh.newObj,hi,Qe6 _ _ _ _ hb]
 n:=by simp[Gh.newObj]
 rho r hr:=by simp[Gh.newObj,Nat.ne_of_lt hr]
 out b hb:=by
  by_cases e:b=w.heap.size
  ·simp[Gh.newObj,e]at hb
  ·simpa[Gh.newObj,e]using hb
 mine b hb:=by
  have:b≠w.heap.size:=Nat.ne_of_lt (h.own_lt (by rw[hb];simp))
  simpa[Gh.newObj,this]using hb
 rm r hr:=by simp[Gh.newObj,Nat.ne_of_lt hr]
theorem QdI(h:HeapOK g H w)(O:Obj){loc:Own}(hl:loc≠ .free){a:AV}{v:Value}(hf:FOK g w loc a v):
  FOK (g.newObj w.heap.size (Qb9 O)) (w.alloc O) loc a v:=
 hf.keep fun b hb=>by
  have hlt:b<w.heap.size:=h.own_lt (by rw[hb];exact hl)
  have:b≠w.heap.size:=Nat.ne_of_lt hlt
  refine⟨by simp[Gh.newObj,this,hb],by simp[Gh.newObj],fun cs e fr hh hz=>⟨cs,fr,by rw[heap_alloc _ _ _ hlt];exact hh,rfl,hz⟩⟩
theorem Qf3(h:HeapOK g H w)(O:Obj)(ob:AObj)(ho:OR (g.newObj w.heap.size (Qb9 O)) (w.alloc O) g.n ob):
  HeapOK (g.newObj w.heap.size (Qb9 O)) (H++ [ob]) (w.alloc O) where
 n:=by simp[Gh.newObj,h.n]
 own r hr ha:=by
  simp only[Gh.newObj]at hr⊢
  by_cases e:r=g.n
  ·subst e;simp[(h.new _ (Nat.le_refl _)).2]
  ·have hr':r<g.n:=by omega
   have ha':Qco H r:=by unfold Qco at ha⊢;rwa [List.getElem?_append_left (by rw[←h.n];exact hr')]at ha
   have:g.rho r≠w.heap.size:=Nat.ne_of_lt (h.rho_lt hr' ha')
   simpa[e,this]using h.own r hr' ha'
 obj r o hob:=by
  by_cases e:r<g.n
  ·rw[List.getElem?_append_left (by rw[←h.n];exact e)]at hob
   exact(h.obj r o hob).keep (Qcu h O) e (fun hd=>heap_alloc _ _ _ (h.rho_lt e (Qck hob hd))) (fun j a v=>QdI h O (by simp))
  ·have hlt:=(List.getElem?_eq_some_iff.1 hob).1
   simp[←h.n]at hlt
   have:r=g.n:=by omega
   subst this
   rw[h.n,List.getElem?_append_right (Nat.le_refl _)]at hob
   simp at hob;subst hob;exact ho
 new b hb:=by
  simp at hb
  have:b≠w.heap.size:=by omega
  simpa[Gh.newObj,this]using h.new b (by omega)
 glob n cs hn:=(Qcu h O).vr (h.glob n cs hn)
structure Turned (g:Gh) (w w':World) (r:Nat):Prop where
 os:w'.os=w.os
 tape:w'.tape=w.tape
 output:w'.output=w.output
 size:w'.heap.size=w.heap.size
 other:∀b,b≠g.rho r→w'.heap[b]? =w.heap[b]?
theorem Qbb(h:HeapOK g H w){w':World}{r:Nat}(hr:r<g.n)(ha:Qco H r)(ht:Turned g w w' r):WF g w g w' where
 os:=ht.os
 tape:=ht.tape
 output:=ht.output
 size:=Nat.le_of_eq ht.size.symm
 idle b hb ho:=by
  refine⟨ht.other b (fun e=> ?_),rfl,rfl⟩
  rw[e,(h.own r hr ha).1]at ho
  rcases ho with ho|ho<;>cases ho
 stays b i hi:=by
  refine⟨hi,Qbh (ht.other b (fun e=> ?_)) i⟩
  rw[e,(h.own r hr ha).2]at hi
  omega
 n:=Nat.le_refl _
 rho _ _:=rfl
 out _ hb:=hb
 mine _ hb:=hb
theorem Qcb(h:HeapOK g H w){w':World}{r:Nat}(hr:r<g.n)(ha:Qco H r)(ht:Turned g w w' r){loc:Own}(hl:∀s,loc≠ .obj s){a:AV}{v:Value}
  (hf:FOK g w loc a v):FOK g w' loc a v:=
 hf.keep fun b hb=>⟨hb,rfl,fun cs e fr hh hz=>⟨cs,fr,by
  rw[ht.other b (fun e=> ?_)];exact hh
  rw[e,(h.own r hr ha).1]at hb
  exact hl r hb.symm,rfl,hz⟩⟩
theorem Qcf(h:HeapOK g H w){w':World}{r:Nat}(hr:r<g.n)(ha:Qco H r)(ht:Turned g w w' r){o:AObj}(ho:OR g w' r o):HeapOK g (H.set r o) w' where
 n:=by simp[h.n]
 own s hs hb:=by
  by_cases e:s=r
  ·subst e;exact h.own s hs ha
  ·refine h.own s hs ?_
   unfold Qco at hb⊢
   rwa [List.getElem?_set_ne (Ne.symm e)]at hb
 obj s ob hob:=by
  have hs:s<g.n:=by
   have:=(List.getElem?_eq_some_iff.1 hob).1
   simpa[h.n]using this
  by_cases e:s=r
  ·subst e
   rw[List.getElem?_set_self (by rw[←h.n];exact hs)]at hob
   simp at hob;subst hob;exact ho
  ·rw[List.getElem?_set_ne (Ne.symm e)]at hob
   exact(h.obj s ob hob).keep (Qbb h hr ha ht) hs (fun hd=>ht.other _ (fun e'=>e (h.rho_inj hs hr (Qck hob hd) ha e'))) (fun j a v=>Qcb h hr ha ht (by simp))
 new b hb:=h.new b (by rw[←ht.size];exact hb)
 glob n cs hn:=(Qbb h hr ha ht).vr (h.glob n cs hn)
end blocks
end Go.Abs
namespace Go.Abs
open Go.RowKit
variable [Tab]
def Done(r:Result Next)(v:Value)(w:World):Prop:=r= .ok (.value v) w∨(r= .ok .skip w∧v=undef)
def Gh.relabel(g:Gh)(a b:Own):Gh:= { g with own:=fun x=>if g.own x=a then b else g.own x }
theorem Qb1(g:Gh)(w:World)(t:Nat)(b:Own)(hb:b≠ .out):WF g w (g.relabel (.slot t) b) w where
 os:=rfl
 tape:=rfl
 output:=rfl
 size:=Nat.le_refl _
 idle x _ ho:=by
  have:g.own x≠ .slot t:=by rcases ho with h|h<;>rw[h]<;>simp
  simp[Gh.relabel,this]
 stays b i hi:=⟨hi,rfl⟩
 n:=Nat.le_refl _
 rho _ _:=rfl
 out x hx:=by
  simp only[Gh.relabel]at hx
  split at hx
  ·exact absurd hx hb
  ·exact hx
 mine x hx:=by simp[Gh.relabel,hx]
theorem Qdb{g:Gh}{w:World}{t:Nat}{b loc:Own}(hl:loc≠ .slot t){a:AV}{v:Value}(h:FOK g w loc a v):FOK (g.relabel (.slot t) b) w loc a v:=
 h.keep fun x hx=>⟨by simp[Gh.relabel,hx,hl],rfl,fun cs e fr hh hz=>⟨cs,fr,hh,rfl,hz⟩⟩
theorem Qe3{g:Gh}{H:Qab}{w:World}(h:HeapOK g H w)(t:Nat)(b:Own)(hb:b≠ .out):HeapOK (g.relabel (.slot t) b) H w where
 n:=h.n
 own r hr ha:=by
  obtain⟨h1,h2⟩:=h.own r hr ha
  exact⟨by simp[Gh.relabel,h1],h2⟩
 obj r o ho:=by
  have hr:r<g.n:=by rw[h.n];exact(List.getElem?_eq_some_iff.1 ho).1
  exact(h.obj r o ho).keep (Qb1 g w t b hb) hr (fun _=>rfl) (fun j a v=>Qdb (by simp))
 new x hx:=by
  obtain⟨h1,h2⟩:=h.new x hx
  exact⟨by simp[Gh.relabel,h1],h2⟩
 glob n cs hn:=(Qb1 g w t b hb).vr (h.glob n cs hn)
theorem QjH{g:Gh}{w:World}{t:Nat}{a:AV}{v:Value}(h:FOK g w (.slot t) a v):FOK (g.relabel (.slot t) .res) w .res a v:=by
 intro xs e
 rcases h xs e with h|⟨b,off,cap,sz,hv,hne,hu,ho,hbd,hh⟩
 ·exact .inl h
 ·exact .inr ⟨b,off,cap,sz,hv,hne,hu,by simp[Gh.relabel,ho],hbd,hh⟩
theorem OpOK.pass{g:Gh}{H:Qab}{w:World}{cons:List Nat}{a:AV}{v:Value}(hH:HeapOK g H w)(hv:VR g w a v)
  (hf:Triv a v∨∃t,t∈cons∧FOK g w (.slot t) a v):∃g',OpOK g w cons g' H w a v:=by
 rcases hf with ht|⟨t,htc,hf⟩
 ·exact⟨g,.same hH hv ht⟩
 ·exact⟨_,Qb1 g w t .res (by simp),Qe3 hH t .res (by simp),(Qb1 g w t .res (by simp)).vr hv,QjH hf,
   fun i x u h3 h4=>Qdb (by simp;intro e;subst e;exact h3 htc) h4⟩
structure CL (g:Gh) (w:World) (cs:List AV) (vs:List Value):Prop where
 len:cs.length=vs.length
 cell:∀c∈cs,c.isCell=true
 vr:∀(i:Nat) c v,cs[i]? =some c→vs[i]? =some v→VR g w c v∧Triv c v
theorem DR.notAgg{bd:Nat→Nat}{w:World}{x:D}{v:Value}(h:DR bd w x v)(hx:x.isCell=true):v.oneCell'=true∧v.cells= #[v]:=by
 cases h<;>first|exact⟨rfl,rfl⟩|simp[D.isCell]at hx
theorem VR.notAgg{g:Gh}{w:World}{a:AV}{v:Value}(h:VR g w a v)(ha:a.isCell=true):v.oneCell'=true∧v.cells= #[v]:=by
 cases h with
 |d x v h=>exact h.notAgg ha
 |fsl xs v h=>exact h.notAgg rfl
 |undef v=>simp[AV.isCell]at ha
 |agg=>simp[AV.isCell]at ha
 |tuple=>simp[AV.isCell]at ha
 |_=>exact⟨rfl,rfl⟩
theorem QbJ{g:Gh}{w:World}{a:AV}{v:Value}(h:VR g w a v)(ht:Triv a v)(hc:∀c∈a.cells,c.isCell=true):CL g w a.cells v.cells.toList:=by
 have one:∀ {a:AV} {v:Value},VR g w a v→Triv a v→a.isCell=true→a.cells= [a]→CL g w a.cells v.cells.toList:=by
  intro a v h ht hc he
  rw[he,(h.notAgg hc).2]
  refine⟨rfl,by simp[hc],fun i c u h1 h2=> ?_⟩
  cases i with
  |zero=>simp at h1 h2;subst h1 h2;exact⟨h,ht⟩
  |succ i=>simp at h1
 cases h with
 |agg cs vs hl hf h ht'=>
  refine⟨by simpa[AV.cells,Value.cells]using hl,hc,fun i c u h1 h2=> ?_⟩
  simp only[AV.cells,Value.cells,Array.getElem?_toList]at h1 h2
  exact⟨h i c u h1 h2,ht' i c u h1 h2⟩
 |d x v h=>
  have hd:=h
  cases h with
  |agg cs vs hl hf h=>
   refine⟨by simpa[AV.cells,D.cells,Value.cells]using hl,hc,fun i c u h1 h2=> ?_⟩
   simp only[AV.cells,D.cells,Value.cells,Array.getElem?_toList,List.getElem?_map,Option.map_eq_some_iff]at h1 h2
   obtain⟨c',h3,rfl⟩:=h1
   exact⟨.d _ _ (h i c' u h3 h2),Triv.d _ _⟩
  |_=>exact one (.d _ _ hd) (Triv.d _ _) rfl rfl
 |undef v=>simp[AV.cells,AV.isCell]at hc
 |tuple=>simp[AV.cells,AV.isCell]at hc
 |ubool=>simp[AV.cells,AV.isCell]at hc
 |fsl=>exact one (.fsl _ _ ‹_›) ht rfl rfl
 |lit=>exact one (.lit _ _ _ _ ‹_› ‹_›) ht rfl rfl
 |ptr=>exact one (.ptr _ _ ‹_›) ht rfl rfl
 |pref=>exact one (.pref _ _ _ _ ‹_› ‹_› ‹_›) ht rfl rfl
 |osl=>exact one (.osl _ _ _ _ _ _ ‹_› ‹_› ‹_› ‹_›) ht rfl rfl
 |mapr=>exact one (.mapr _ ‹_›) ht rfl rfl
 |nilmap=>exact one .nilmap ht rfl rfl
 |func=>exact one (.func _ _ _ ‹_› ‹_› ‹_›) ht rfl rfl
 |nilfunc=>exact one .nilfunc ht rfl rfl
 |iface=>exact one (.iface _ _ _ ‹_› ‹_›) ht rfl rfl
 |niliface=>exact one .niliface ht rfl rfl
theorem Qla{cs:List AV}{ds:List D}(h:AV.pures cs=some ds):cs=ds.map .d:=by
 induction cs generalizing ds with
 |nil=>simp[AV.pures]at h;subst h;rfl
 |cons c cs ih=>
  cases c<;>simp only[AV.pures]at h
  case d x=>
   split at h
   ·rename_i xs hx;simp at h;subst h;simp[ih hx]
   ·simp at h
  all_goals simp at h
theorem VR.d_inv{g:Gh}{w:World}{x:D}{v:Value}(h:VR g w (.d x) v):DR g.bd w x v:=by cases h;assumption
theorem Qd3{g:Gh}{w:World}{cs:List AV}{vs:Array Value}(h:CL g w cs vs.toList):VR g w (AV.mkAgg cs) (.agg vs)∧Triv (AV.mkAgg cs) (.agg vs):=by
 unfold AV.mkAgg
 split
 ·rename_i ds hd
  have e:=Qla hd
  subst e
  refine⟨.d _ _ (.agg _ _ (by simpa using h.len) (fun c hc=>by have:=h.cell (.d c) (List.mem_map.2 ⟨c,hc,rfl⟩);simpa[AV.isCell]using this) (fun i c v hc hv=> ?_)),Triv.d _ _⟩
  exact((h.vr i (.d c) v (by simp[hc]) (by simpa using hv)).1).d_inv
 ·exact⟨.agg _ _ (by simpa using h.len) h.cell (fun i c v hc hv=>(h.vr i c v hc (by simpa using hv)).1) (fun i c v hc hv=>(h.vr i c v hc (by simpa using hv)).2),fun xs e=>by cases e⟩
theorem CL.unf{g:Gh}{w:World}{cs:List AV}{vs:List Value}(h:CL g w cs vs):CL g w (cs.map AV.unf) vs:=by
 refine⟨by simpa using h.len,fun c hc=> ?_,fun i c v hc hv=> ?_⟩
 ·obtain⟨c',h1,rfl⟩:=List.mem_map.1 hc;exact Qdu (h.cell c' h1)
 ·simp only[List.getElem?_map,Option.map_eq_some_iff]at hc
  obtain⟨c',h1,rfl⟩:=hc
  exact⟨(h.vr i c' v h1 hv).1.unf,Triv.unf _ _⟩
theorem CL.mono{g g':Gh}{w w':World}(hw:WF g w g' w'){cs:List AV}{vs:List Value}(h:CL g w cs vs):CL g' w' cs vs:=
 ⟨h.len,h.cell,fun i c v hc hv=>⟨hw.vr (h.vr i c v hc hv).1,(h.vr i c v hc hv).2⟩⟩
theorem CL.sub{g:Gh}{w:World}{cs:List AV}{vs:List Value}(h:CL g w cs vs)(off n:Nat):CL g w ((cs.drop off).take n) ((vs.drop off).take n):=by
 refine⟨by simp[h.len],fun c hc=>h.cell c (List.mem_of_mem_drop (List.mem_of_mem_take hc)),fun i c v hc hv=> ?_⟩
 have hi:i<n:=by
  have:=(List.getElem?_eq_some_iff.1 hc).1
  simp at this;omega
 simp only[List.getElem?_take,hi,if_true,List.getElem?_drop]at hc hv
 exact h.vr _ c v hc hv
theorem CL.append{g:Gh}{w:World}{cs ds:List AV}{vs us:List Value}(h:CL g w cs vs)(k:CL g w ds us):CL g w (cs++ds) (vs++us):=by
 refine⟨by simp[h.len,k.len],fun c hc=>(List.mem_append.1 hc).elim (h.cell c) (k.cell c),fun i c v hc hv=> ?_⟩
 by_cases hi:i<cs.length
 ·rw[List.getElem?_append_left hi]at hc
  rw[List.getElem?_append_left (by rw[←h.len];exact hi)]at hv
  exact h.vr i c v hc hv
 ·rw[List.getElem?_append_right (by omega)]at hc
  rw[List.getElem?_append_right (by rw[←h.len];omega),←h.len]at hv
  exact k.vr _ c v hc hv
theorem CL.splice{g:Gh}{w:World}{cs ds:List AV}{vs us:List Value}(h:CL g w cs vs)(off:Nat)(k:CL g w ds us):
  CL g w (splice cs off ds) (vs.take off++(us++vs.drop (off+us.length))):=by
 unfold Abs.splice
 have a:=h.sub 0 off
 have b:=h.sub (off+us.length) cs.length
 simp only[List.drop_zero]at a
 rw[List.take_of_length_le (by simp),List.take_of_length_le (by simp[h.len])]at b
 rw[k.len]
 exact a.append (k.append b)
section run
variable {P:Program} {w:World}
theorem QaG{t:TypeId}{i:TypeInfo}{z:Value}(h:P.info? t=some i)(hz:i.zero=some z):(zeroValue t).run P w= .ok z w:=by
 simp[zeroValue,run_typeInfo w h,hz]
theorem Qaj{t:TypeId}{i:TypeInfo}(h:P.info? t=some i):(sizeOf t).run P w= .ok i.size w:=by
 simp[sizeOf,run_typeInfo w h]
theorem Qb7(t:TypeId){d:TypeDesc}(h:P.underlying t=some d):(isAgg t).run P w= .ok (isAggT P t) w:=by
 simp only[isAgg,Sem.run_bind,run_underlying h,Result.andThen_ok,isAggT,h]
 cases d<;>rfl
theorem Qan{t:TypeId}{s:Nat}(h:QaX P t=some s):∃i,P.info? t=some i∧i.size=s:=by
 simpa[QaX]using h
theorem Qbu{t:TypeId}{z:AV}(h:QdD P t=some z):∃i v,P.info? t=some i∧i.zero=some v∧absC v=z:=by
 simp only[QdD,Option.map_eq_some_iff,Option.bind_eq_some_iff]at h
 obtain⟨v,⟨i,h1,h2⟩,h3⟩:=h
 exact⟨i,v,h1,h2,h3⟩
theorem Qip{g:Gh}{H:Qab}(hH:HeapOK g H w)(cons:List Nat){cs:List AV}{vs:Array Value}(e:TypeId)(h:CL g w cs vs.toList):
  OpOK g w cons (g.newObj w.heap.size (Qb9 (.cells vs e))) (H++ [.cells cs]) (w.alloc (.cells vs e)) (.ptr H.length 0) (.pointer (some ⟨w.heap.size,0,none⟩)):=by
 have hw:=Qcu hH (.cells vs e)
 refine⟨hw,Qf3 hH _ _ ?_, ?_,FOK.ne (by simp),fun i x u _ h4=>QdI hH _ (by simp) h4⟩
 ·have hrho:(g.newObj w.heap.size (Qb9 (.cells vs e))).rho g.n=w.heap.size:=by simp[Gh.newObj]
  refine⟨vs,e,(0,0),by rw[hrho];exact QaF _ _,by have:=h.len;simp[Gh.newObj,Qb9]at this⊢;omega,.inl rfl,h.cell,fun j c v hc hv=> ?_⟩
  have:=h.vr j c v hc (by simpa using hv)
  exact⟨hw.vr this.1,FOK.triv this.2⟩
 ·have:(g.newObj w.heap.size (Qb9 (.cells vs e))).rho H.length=w.heap.size:=by simp[Gh.newObj,hH.n]
  have hp:VR (g.newObj w.heap.size (Qb9 (.cells vs e))) (w.alloc (.cells vs e)) (.ptr H.length 0) (.pointer (some ⟨(g.newObj w.heap.size (Qb9 (.cells vs e))).rho H.length,0,none⟩)):=
   .ptr _ _ (by rw[←hH.n];exact Nat.lt_succ_self _)
  rw[this]at hp
  exact hp
theorem op_new{g:Gh}{H:Qab}(hH:HeapOK g H w){e:TypeId}{z:AV}(hz:QdD P e=some z)(hc:z.cells.all AV.isCell=true)(cons:List Nat):
  ∃v w' g',(Instr.alloc e true (.tuple #[])).run P w= .ok v w'∧OpOK g w cons g' (H++ [.cells z.cells]) w' (.ptr H.length 0) v:=by
 obtain⟨i,v,h1,h2,rfl⟩:=Qbu hz
 rw[List.all_eq_true]at hc
 refine⟨_,_,_, ?_,Qip hH cons e (QbJ (Qbt g w v).1 (Qbt g w v).2 hc)⟩
 simp[Instr.alloc,QaG h1 h2,newVar,newRow]
theorem op_box{g:Gh}{H:Qab}(hH:HeapOK g H w){e:TypeId}{a:AV}{v:Value}(hv:VR g w a v)(ht:Triv a v)(hc:a.cells.all AV.isCell=true)(cons:List Nat):
  ∃v' w' g',(Instr.box e v).run P w= .ok v' w'∧OpOK g w cons g' (H++ [.cells a.cells]) w' (.ptr H.length 0) v':=by
 rw[List.all_eq_true]at hc
 refine⟨_,_,_, ?_,Qip hH cons e (QbJ hv ht hc)⟩
 simp[Instr.box,newVar,newRow]
end run
end Go.Abs
namespace Go.Abs
open Go.RowKit
variable [Tab]
section ops
variable {P:Program} {g:Gh} {H:Qab} {w:World} {cons:List Nat}
theorem add_lit(b o n:Nat):(⟨b,o,none⟩:Addr).add n=⟨b,o+n,none⟩:=Go.Addr.add_lit b o n
theorem HeapOK.get(hH:HeapOK g H w){r:Nat}{o:AObj}(h:H[r]? =some o):r<g.n∧OR g w r o:=
 ⟨by rw[hH.n];exact(List.getElem?_eq_some_iff.1 h).1,hH.obj r o h⟩
theorem Qax{b:Nat}{vs:Array Value}{e:TypeId}{fr:Nat×Nat}(h:w.heap[b]? =some (.cells vs e fr))(i:Nat):w.cell? ⟨b,i,none⟩=vs[i]? :=by
 simp[World.cell?,h]
theorem Qbe{b:Nat}{vs:Array Value}{e:TypeId}{fr:Nat×Nat}(h:w.heap[b]? =some (.cells vs e fr)){i:Nat}(hfr:fr.1=fr.2∨vs.size≤fr.1)(hlt:i<vs.size):w.frozen? ⟨b,i,none⟩=false:=by
 have hi:¬(fr.1≤i∧i<fr.2):=by omega
 simp only[World.frozen?,h,Bool.and_eq_false_iff,decide_eq_false_iff_not]
 by_cases h1:fr.1≤i
 ·exact .inr fun h2=>hi ⟨h1,h2⟩
 ·exact .inl h1
theorem Qmx{r:Nat}{cs:List AV}(h:OR g w r (.cells cs)):∃vs e fr,w.heap[g.rho r]? =some (.cells vs e fr)∧cs.length≤vs.size∧CL g w (cs.map AV.unf) (vs.toList.take cs.length):=by
 obtain⟨vs,e,fr,h1,h2,_,h4,h5⟩:=h
 refine⟨vs,e,fr,h1,h2.1,by simp;omega,fun c hc=> ?_,fun i c v hc hv=> ?_⟩
 ·obtain⟨c',h6,rfl⟩:=List.mem_map.1 hc;exact Qdu (h4 c' h6)
 ·simp only[List.getElem?_map,Option.map_eq_some_iff]at hc
  obtain⟨c',h6,rfl⟩:=hc
  rw[List.getElem?_take]at hv
  split at hv
  ·exact⟨(h5 i c' v h6 (by simpa using hv)).1.unf,Triv.unf _ _⟩
  ·cases hv
theorem Qjp{α:Type}(l:List α){off n m:Nat}(h:off+n≤m):((l.take m).drop off).take n=(l.drop off).take n:=by
 apply List.ext_getElem?
 intro i
 simp only[List.getElem?_take,List.getElem?_drop]
 by_cases hi:i<n
 ·rw[if_pos hi,if_pos hi,if_pos (by omega)]
 ·rw[if_neg hi,if_neg hi]
theorem QdC(vs:Array Value)(off n:Nat)(h:off+n≤vs.size):((List.range n).map fun j=>vs.getD (off+j) undef)=(vs.toList.drop off).take n:=by
 apply List.ext_getElem?
 intro i
 by_cases hi:i<n
 ·have:off+i<vs.size:=by omega
  simp[hi,List.getElem?_drop,Array.getD,this]
 ·simp[hi,List.getElem?_take]
theorem Qcy{t:TypeId}{d:TypeDesc}{i:TypeInfo}(hd:P.underlying t=some d)(hi:P.info? t=some i){b off:Nat}{vs:Nat→Value}
  (hc:∀k,k<i.size→w.cell? ⟨b,off+k,none⟩=some (vs k))(h1:isAggT P t=false→w.cell? ⟨b,off,none⟩=some (vs 0)):
  (loadVar t ⟨b,off,none⟩).run P w= .ok (if isAggT P t then .agg ((List.range i.size).map vs).toArray else vs 0) w:=by
 unfold loadVar
 rw[Sem.run_bind,Qb7 t hd,Result.andThen_ok]
 cases hA:isAggT P t with
 |true=>
  simp only[if_true,Sem.run_bind,Qaj hi,Result.andThen_ok]
  rw[run_loadCells w _ _ vs (fun j hj=>by rw[add_lit];exact hc j hj)]
  rfl
 |false=>
  simp only[Bool.false_eq_true,if_false,run_load,h1 hA]
theorem QfS(hH:HeapOK g H w){t:TypeId}{d:TypeDesc}(hd:P.underlying t=some d){s:Nat}(hs:QaX P t=some s){r off:Nat}{cs:List AV}
  (hr:H[r]? =some (.cells cs)){a:AV}(ha:readCells (isAggT P t) s cs off=some a):
  ∃v,(Instr.loadAt t (.pointer (some ⟨g.rho r,off,none⟩))).run P w= .ok v w∧VR g w a v∧Triv a v:=by
 obtain⟨i,hi,rfl⟩:=Qan hs
 obtain⟨hrn,ho⟩:=hH.get hr
 obtain⟨vs,e,fr,h1,h2,h3⟩:=Qmx ho
 have hcell:=fun k=>Qax (w:=w) h1 k
 simp only[Instr.loadAt,Instr.sureAddr,Sem.run_bind,Sem.run_pure,Result.andThen_ok]
 unfold readCells at ha
 cases hA:isAggT P t with
 |true=>
  simp only[hA,if_true]at ha
  split at ha
  ·rename_i hle
   simp at ha
   have hl:=Qcy (P:=P) (w:=w) hd hi (b:=g.rho r) (off:=off) (vs:=fun k=>vs.getD (off+k) undef)
    (fun k hk=>by rw[hcell,Array.getD];have:off+k<vs.size:=by omega
                  simp[this]) (fun h=>by rw[hA]at h;cases h)
   rw[hl,hA]
   simp only[if_true]
   rw[QdC _ _ _ (by omega)]
   have hcl:=h3.sub off i.size
   rw[Qjp _ hle]at hcl
   have:=Qd3 (vs:=((vs.toList.drop off).take i.size).toArray) (by simpa using hcl)
   rw[←ha]
   exact⟨_,rfl,this.1,this.2⟩
  ·simp at ha
 |false=>
  simp only[hA,Bool.false_eq_true,if_false,Option.map_eq_some_iff]at ha
  obtain⟨c,hc,rfl⟩:=ha
  have hlt:=(List.getElem?_eq_some_iff.1 hc).1
  obtain⟨u,hv⟩:∃u,vs[off]? =some u:=⟨_,Array.getElem?_eq_getElem (by omega)⟩
  have:w.cell? ⟨g.rho r,off,none⟩=some u:=by rw[hcell,hv]
  refine⟨u,by unfold loadVar;rw[Sem.run_bind,Qb7 t hd,Result.andThen_ok,hA];simp[this], ?_⟩
  have:=h3.vr off c.unf _ (by simp[hc]) (by rw[List.getElem?_take,if_pos hlt];simpa using hv)
  exact⟨this.1,this.2⟩
theorem Qe1{t:TypeId}{d:TypeDesc}(hd:P.underlying t=some d){s:Nat}(hs:QaX P t=some s){cs:List D}{v:Value}
  (hv:VR g w (.pref cs) v){x:D}(ha:readD (isAggT P t) s cs=some x):
  ∃u,(Instr.loadAt t v).run P w= .ok u w∧VR g w (.d x) u:=by
 obtain⟨i,hi,rfl⟩:=Qan hs
 cases hv with
 |pref cs b off vs hf hc h=>
  simp only[Instr.loadAt,Instr.sureAddr,Sem.run_bind,Sem.run_pure,Result.andThen_ok]
  unfold readD at ha
  cases hA:isAggT P t with
  |true=>
   simp only[hA,if_true]at ha
   split at ha
   ·rename_i hle
    simp at ha;subst ha
    have hl:=Qcy (P:=P) (w:=w) hd hi (b:=b) (off:=off) (vs:=vs) (fun k hk=>(hc k (by omega)).2) (fun h=>by rw[hA]at h;cases h)
    rw[hl,hA]
    refine⟨_,rfl,.d _ _ (.agg _ _ (by simp;omega) (fun c hc'=>hf c (List.mem_of_mem_take hc')) (fun k c u hk hu=> ?_))⟩
    have hki:k<i.size:=by have:=(List.getElem?_eq_some_iff.1 hk).1;simp at this;omega
    simp[hki]at hu hk
    subst hu
    exact h k c hk
   ·simp at ha
  |false=>
   simp only[hA,Bool.false_eq_true,if_false]at ha
   have hlt:=(List.getElem?_eq_some_iff.1 ha).1
   have hcell:w.cell? ⟨b,off,none⟩=some (vs 0):=(hc 0 hlt).2
   refine⟨vs 0,by unfold loadVar;rw[Sem.run_bind,Qb7 t hd,Result.andThen_ok,hA];simp[hcell],.d _ _ (h 0 x ha)⟩
theorem Qjv(hH:HeapOK g H w){t:TypeId}{d:TypeDesc}(hd:P.underlying t=some d)(hA:isAggT P t=false){r off:Nat}{cs:List AV}
  (hr:H[r]? =some (.cells cs)){a:AV}(ha:cs[off]? =some a):
  ∃v g',(Instr.loadAt t (.pointer (some ⟨g.rho r,off,none⟩))).run P w= .ok v w∧OpOK g w cons g' (H.set r (.cells (cs.set off a.unf))) w a v:=by
 obtain⟨hrn,vs,e,fr,h1,h2,h3,h4,h5⟩:=hH.get hr
 have hlt:=(List.getElem?_eq_some_iff.1 ha).1
 obtain⟨u,hv⟩:∃u,vs[off]? =some u:=⟨_,Array.getElem?_eq_getElem (by omega)⟩
 have hcell:w.cell? ⟨g.rho r,off,none⟩=some u:=by rw[Qax h1,hv]
 obtain⟨hvr,hfok⟩:=h5 off a _ ha hv
 let g':Gh:= { g with own:=fun x=>if g.own x= .cell r off then .res else g.own x }
 have hw:WF g w g' w:= {
  os:=rfl,tape:=rfl,output:=rfl,size:=Nat.le_refl _
  idle:=fun x _ ho=>by
   have:g.own x≠ .cell r off:=by rcases ho with h|h<;>rw[h]<;>simp
   simp[g',this]
  stays:=fun b i hi=>⟨hi,rfl⟩,n:=Nat.le_refl _,rho:=fun _ _=>rfl
  out:=fun x hx=>by
   simp only[g']at hx
   split at hx
   ·cases hx
   ·exact hx
  mine:=fun x hx=>by simp[g',hx] }
 have hk:∀ {loc:Own} {a:AV} {v:Value},loc≠ .cell r off→FOK g w loc a v→FOK g' w loc a v:=fun hl h=>
  h.keep fun x hx=>⟨by simp[g',hx,hl],rfl,fun cs e fr hh hz=>⟨cs,fr,hh,rfl,hz⟩⟩
 refine⟨u,g',by simp[Instr.loadAt,Instr.sureAddr,loadVar,Qb7 t hd,hA,hcell],hw, ?_,hw.vr hvr, ?_, ?_⟩
 ·refine⟨by simp[g',hH.n],fun s hs hal=> ?_,fun s o ho=> ?_,fun b hb=> ?_,fun n cs hn=>hw.vr (hH.glob n cs hn)⟩
  ·obtain⟨q1,q2⟩:=hH.own s hs (by
    unfold Qco at hal⊢
    by_cases es:s=r
    ·subst es;rw[hr];simp
    ·rwa [List.getElem?_set_ne (Ne.symm es)]at hal)
   exact⟨by simp[g',q1],q2⟩
  ·have hs:s<g.n:=by rw[hH.n];have:=(List.getElem?_eq_some_iff.1 ho).1;simpa using this
   by_cases es:s=r
   ·subst es
    rw[List.getElem?_set_self (by rw[←hH.n];exact hs)]at ho
    simp at ho;subst ho
    refine⟨vs,e,fr,h1,by rw[List.length_set];exact h2,by simpa using h3,fun c hc=> ?_,fun j c v hc hv'=> ?_⟩
    ·obtain⟨j,hj⟩:=List.mem_iff_getElem?.1 hc
     by_cases ej:j=off
     ·subst ej
      rw[List.getElem?_set_self hlt]at hj
      simp at hj;subst hj
      exact Qdu (h4 a (List.mem_of_getElem? ha))
     ·rw[List.getElem?_set_ne (Ne.symm ej)]at hj
      exact h4 c (List.mem_of_getElem? hj)
    ·by_cases ej:j=off
     ·subst ej
      rw[List.getElem?_set_self hlt]at hc
      simp at hc;subst hc
      rw[hv]at hv';simp at hv';subst hv'
      exact⟨hw.vr hvr.unf,FOK.unf _ _ _ _ _⟩
     ·rw[List.getElem?_set_ne (Ne.symm ej)]at hc
      obtain⟨q1,q2⟩:=h5 j c v hc hv'
      exact⟨hw.vr q1,hk (by simp;exact ej) q2⟩
   ·rw[List.getElem?_set_ne (Ne.symm es)]at ho
    exact(hH.obj s o ho).keep hw hs (fun _=>rfl) (fun j a v=>hk (by simp;intro h;exact absurd h es))
  ·obtain⟨q1,q2⟩:=hH.new b hb
   exact⟨by simp[g',q1],q2⟩
 ·intro xs ex
  rcases hfok xs ex with h|⟨b,o,cap,sz,q1,q2,q3,q4,q5,q6⟩
  ·exact .inl h
  ·exact .inr ⟨b,o,cap,sz,q1,q2,q3,by simp[g',q4],q5,q6⟩
 ·exact fun i x u _ hf=>hk (by simp) hf
end ops
end Go.Abs
namespace Go.Abs
open Go.RowKit
variable [Tab]
section ops
variable {P:Program} {g:Gh} {H:Qab} {w:World} {cons:List Nat}
theorem Qbp(b:Nat):∀(vs:List Value) (o:Nat) (w:World) (k:Nat),k≠b→(w.setCells b o vs).heap[k]? =w.heap[k]?
 | [],_,_,_,_=>rfl
 |v::r,o,w,k,h=>by rw[World.setCells,Qbp b r (o+1) _ k h,Below.heap_setCell _ _ _ _ h]
theorem Qbq(b:Nat):∀(vs:List Value) (o:Nat) (w:World) (c:Array Value) (e:TypeId) (fr:Nat×Nat),w.heap[b]? =some (.cells c e fr)→o+vs.length≤c.size→
  ∃c',(w.setCells b o vs).heap[b]? =some (.cells c' e fr)∧c'.toList=c.toList.take o++(vs++c.toList.drop (o+vs.length))
 | [],o,w,c,e,fr,h,_=>⟨c,h,by simp⟩
 |v::r,o,w,c,e,fr,h,hl=>by
  have h1:(w.setCell ⟨b,o,none⟩ v).heap[b]? =some (.cells (c.setIfInBounds o v) e fr):=by
   simp[World.setCell,Array.getElem?_modify,h]
  simp only[List.length_cons]at hl
  obtain⟨c',h2,h3⟩:=Qbq b r (o+1) _ _ e fr h1 (by simp;omega)
  refine⟨c',h2, ?_⟩
  rw[h3]
  have ho:o<c.toList.length:=by simp;omega
  simp only[Array.toList_setIfInBounds]
  rw[List.take_succ_eq_append_getElem (by simpa using ho),List.take_set_of_le (Nat.le_refl _)]
  simp only[List.getElem_set_self,List.append_assoc,List.singleton_append,List.length_cons]
  rw[List.drop_set_of_lt (by omega)]
  simp only[List.cons_append]
  rw[show o+1+r.length=o+(r.length+1) by omega]
theorem QbX(b:Nat):∀(vs:List Value) (o:Nat) (w:World),(w.setCells b o vs).os=w.os∧(w.setCells b o vs).tape=w.tape∧(w.setCells b o vs).output=w.output∧(w.setCells b o vs).heap.size=w.heap.size
 | [],_,_=>⟨rfl,rfl,rfl,rfl⟩
 |v::r,o,w=>by
  obtain⟨h1,h2,h3,h4⟩:=QbX b r (o+1) (w.setCell ⟨b,o,none⟩ v)
  rw[World.setCells]
  exact⟨h1,h2,h3,by rw[h4];simp⟩
theorem QcR(hH:HeapOK g H w){r:Nat}{cs ds:List AV}{us:List Value}{off:Nat}(hr:H[r]? =some (.cells cs))(hl:off+us.length≤cs.length)
  (hlen:ds.length=us.length)(hcell:∀c∈ds,c.isCell=true)(hd:∀(i:Nat) c v,ds[i]? =some c→us[i]? =some v→VR g w c v∧FOK g w (.cell r (off+i)) c v):
  Turned g w (w.setCells (g.rho r) off us) r∧OR g (w.setCells (g.rho r) off us) r (.cells (splice cs off ds))∧
  (storeCells ⟨g.rho r,off,none⟩ us).run P w= .ok () (w.setCells (g.rho r) off us):=by
 obtain⟨hrn,vs,e,fr,h1,h2,h3,h4,h5⟩:=hH.get hr
 obtain⟨s1,s2,s3,s4⟩:=QbX (g.rho r) us off w
 have ht:Turned g w (w.setCells (g.rho r) off us) r:=⟨s1,s2,s3,s4,fun b hb=>Qbp _ _ _ _ _ hb⟩
 obtain⟨c',q1,q2⟩:=Qbq (g.rho r) us off w vs e fr h1 (by omega)
 have ha:=Qck hr (by simp)
 have hw:=Qbb hH hrn ha ht
 have keep:∀ {j:Nat} {a:AV} {v:Value},VR g w a v∧FOK g w (.cell r j) a v→VR g (w.setCells (g.rho r) off us) a v∧FOK g (w.setCells (g.rho r) off us) (.cell r j) a v:=
  fun h=>⟨hw.vr h.1,Qcb hH hrn ha ht (by simp) h.2⟩
 refine⟨ht,⟨c',e,fr,q1, ?_, ?_, ?_, ?_⟩, ?_⟩
 ·have:=congrArg List.length q2
  simp at this
  simp[splice];omega
 ·have:=congrArg List.length q2
  simp at this
  rcases h3 with h3|h3
  ·exact .inl h3
  ·exact .inr (by omega)
 ·intro c hc
  simp only[splice,List.mem_append]at hc
  rcases hc with hc|hc|hc
  ·exact h4 c (List.mem_of_mem_take hc)
  ·exact hcell c hc
  ·exact h4 c (List.mem_of_mem_drop hc)
 ·intro j c v hc hv
  rw[←Array.getElem?_toList,q2]at hv
  simp only[splice]at hc
  have hoff:(cs.take off).length=off:=by simp;omega
  have hoff':(vs.toList.take off).length=off:=by simp;omega
  by_cases c1:j<off
  ·rw[List.getElem?_append_left (by rw[hoff];exact c1),List.getElem?_take,if_pos c1]at hc
   rw[List.getElem?_append_left (by rw[hoff'];exact c1),List.getElem?_take,if_pos c1]at hv
   exact keep (h5 j c v hc (by simpa using hv))
  ·rw[List.getElem?_append_right (by rw[hoff];omega),hoff]at hc
   rw[List.getElem?_append_right (by rw[hoff'];omega),hoff']at hv
   by_cases c2:j-off<ds.length
   ·rw[List.getElem?_append_left c2]at hc
    rw[List.getElem?_append_left (by omega)]at hv
    have:=hd (j-off) c v hc hv
    rw[show off+(j-off)=j by omega]at this
    exact keep this
   ·rw[List.getElem?_append_right (by omega),List.getElem?_drop]at hc
    rw[List.getElem?_append_right (by omega),List.getElem?_drop]at hv
    rw[show off+ds.length+(j-off-ds.length)=j by omega]at hc
    rw[show off+us.length+(j-off-us.length)=j by omega]at hv
    exact keep (h5 j c v hc (by simpa using hv))
 ·have:=run_storeCells_cells (P:=P) (g.rho r) off us 0 w
   (fun j hj=>by rw[Qax h1];rw[Array.getElem?_eq_getElem (by omega)];rfl)
   (fun j hj=>Qbe h1 h3 (by omega))
   (fun v hv=>by
     obtain⟨i,hi⟩:=List.mem_iff_getElem?.1 hv
     have hil:=(List.getElem?_eq_some_iff.1 hi).1
     have hdi:ds[i]? =some ds[i]:=List.getElem?_eq_getElem (by omega)
     exact((hd i _ v hdi hi).1.notAgg (hcell _ (List.getElem_mem _))).1)
  simpa using this
theorem op_store(hH:HeapOK g H w){t:TypeId}{s:Nat}(hs:QaX P t=some s){r off:Nat}{cs:List AV}{a:AV}{v:Value}
  (hr:H[r]? =some (.cells cs))(hv:VR g w a v)(hf:Triv a v∨∃t,t∈cons∧FOK g w (.slot t) a v)(hl:a.cells.length=s)(hoff:off+s≤cs.length)(hc:a.cells.all AV.isCell=true):
  ∃w' g',(Instr.storeAt t (.pointer (some ⟨g.rho r,off,none⟩)) v).run P w= .ok () w'∧OpOK g w cons g' (H.set r (.cells (splice cs off a.cells))) w' (.tuple []) undef:=by
 obtain⟨i,hi,rfl⟩:=Qan hs
 rw[List.all_eq_true]at hc
 obtain⟨g1,hw1,hH1,hk1,hcl1,hn1,hrho1⟩:∃g1,WF g w g1 w∧HeapOK g1 H w∧(∀i x u,i∉cons→FOK g w (.slot i) x u→FOK g1 w (.slot i) x u)∧
   (a.cells.length=v.cells.size∧∀(i:Nat) c u,a.cells[i]? =some c→v.cells[i]? =some u→VR g1 w c u∧FOK g1 w (.cell r (off+i)) c u)∧g1.n=g.n∧g1.rho=g.rho:=by
  rcases hf with ht|⟨t',htc,hf⟩
  ·have hcl:=QbJ hv ht hc
   exact⟨g,.refl g w,hH,fun _ _ _ _ h=>h,⟨by simpa using hcl.len,fun i c u h1 h2=>⟨(hcl.vr i c u h1 (by simpa using h2)).1,.triv (hcl.vr i c u h1 (by simpa using h2)).2⟩⟩,rfl,rfl⟩
  ·by_cases hfs:∃xs,a= .fslice xs
   ·obtain⟨xs,rfl⟩:=hfs
    have hvc:=(hv.notAgg rfl).2
    refine⟨g.relabel (.slot t') (.cell r off),Qb1 g w t' _ (by simp),Qe3 hH t' _ (by simp),fun i x u h1 h2=>Qdb (by simp;intro e;subst e;exact h1 htc) h2,⟨by rw[hvc];rfl,fun i c u h1 h2=> ?_⟩,rfl,rfl⟩
    rw[hvc]at h2
    cases i with
    |zero=>
     simp[AV.cells]at h1 h2;subst h1 h2
     refine⟨(Qb1 g w t' _ (by simp)).vr hv,fun ys e=> ?_⟩
     rcases hf ys e with h|⟨b,o,cap,sz,q1,q2,q3,q4,q5,q6⟩
     ·exact .inl h
     ·exact .inr ⟨b,o,cap,sz,q1,q2,q3,by simp[Gh.relabel,q4],q5,q6⟩
    |succ i=>simp[AV.cells]at h1
   ·have ht:Triv a v:=fun xs e=>absurd ⟨xs,e⟩ hfs
    have hcl:=QbJ hv ht hc
    exact⟨g,.refl g w,hH,fun _ _ _ _ h=>h,⟨by simpa using hcl.len,fun i c u h1 h2=>⟨(hcl.vr i c u h1 (by simpa using h2)).1,.triv (hcl.vr i c u h1 (by simpa using h2)).2⟩⟩,rfl,rfl⟩
 obtain⟨hlen,hpt⟩:=hcl1
 have hrn:r<g1.n:=(hH1.get hr).1
 obtain⟨ht,hor,hrun⟩:=QcR (P:=P) hH1 (us:=v.cells.toList) (ds:=a.cells) (off:=off) hr (by simp[←hlen];omega) (by simpa using hlen) hc (fun i c u h1 h2=>hpt i c u h1 (by simpa using h2))
 rw[hrho1]at ht hor hrun
 have ha:=Qck hr (by simp)
 refine⟨_,g1, ?_,hw1.trans (Qbb hH1 hrn ha ht),Qcf hH1 hrn ha ht hor,.tuple [] #[] rfl (fun i c v h=>by simp at h) (fun i c v h=>by simp at h),FOK.ne (by simp),fun i x u h1 h2=>Qcb hH1 hrn ha ht (by simp) (hk1 i x u h1 h2)⟩
 simp only[Instr.storeAt,Instr.sureAddr,Sem.run_bind,Sem.run_pure,Result.andThen_ok,storeVar,Qaj hi]
 rw[if_neg (by rw[←hlen];omega)]
 simpa using hrun
theorem Qe2{s:TypeId}{f:Nat}{fs:Array Field}(hd:P.underlying s=some (.struct fs)){fl:Field}(hf:fs.toList[f]? =some fl){z:Nat}(hz:QaX P fl.type=some z)(hz0:z≠0)
  (b off:Nat):(Instr.fieldAt s (.pointer (some ⟨b,off,none⟩)) f).run P w= .ok (.pointer (some ⟨b,off+fl.offset,none⟩)) w:=by
 obtain⟨i,hi,rfl⟩:=Qan hz
 rw[Array.getElem?_toList]at hf
 simp[Instr.fieldAt,run_underlying hd,hf,Instr.sureAddr,fieldPlace,Qaj hi,hz0,add_lit]
theorem Qig{cs:List D}{b off:Nat}(h:VR g w (.pref cs) (.pointer (some ⟨b,off,none⟩)))(n:Nat):VR g w (.pref (cs.drop n)) (.pointer (some ⟨b,off+n,none⟩)):=by
 cases h with
 |pref _ _ _ vs hf hc h=>
  refine .pref _ _ _ (fun k=>vs (n+k)) (fun c hc'=>hf c (List.mem_of_mem_drop hc')) (fun k hk=> ?_) (fun k c hk=> ?_)
  ·simp at hk
   have:=hc (n+k) (by omega)
   rwa [←Nat.add_assoc]at this
  ·rw[List.getElem?_drop]at hk
   exact h _ _ hk
end ops
end Go.Abs
namespace Go.Abs
open Go.RowKit
variable [Tab]
section ops
variable {P:Program} {g:Gh} {H:Qab} {w:World} {cons:List Nat}
theorem QeV{t:TypeId}{d:TypeDesc}(hd:P.underlying t=some d){i:TypeInfo}(hi:P.info? t=some i){vs:Array Value}{off:Nat}{a:AV}{cs:List AV}
  (hcl:CL g w (cs.map AV.unf) vs.toList)(ha:readCells (isAggT P t) i.size cs off=some a):
  ∃v,(part t vs off).run P w= .ok v w∧VR g w a v∧Triv a v:=by
 unfold readCells at ha
 unfold part
 rw[Sem.run_bind,Qb7 t hd,Result.andThen_ok]
 have hlen:=hcl.len
 simp at hlen
 cases hA:isAggT P t with
 |true=>
  simp only[hA,if_true]at ha
  split at ha
  ·rename_i hle
   simp at ha
   simp only[if_true,Sem.run_bind,Qaj hi,Result.andThen_ok,Sem.run_pure]
   have hcl':=hcl.sub off i.size
   have:=Qd3 (vs:=vs.extract off (off+i.size)) (by
    have e:(vs.extract off (off+i.size)).toList=(vs.toList.drop off).take i.size:=by
     simp[List.take_drop]
    rw[e];exact hcl')
   rw[←ha]
   exact⟨_,rfl,this.1,this.2⟩
  ·simp at ha
 |false=>
  simp only[hA,Bool.false_eq_true,if_false,Option.map_eq_some_iff]at ha
  obtain⟨c,hc,rfl⟩:=ha
  have hlt:=(List.getElem?_eq_some_iff.1 hc).1
  obtain⟨u,hv⟩:∃u,vs[off]? =some u:=⟨_,Array.getElem?_eq_getElem (by omega)⟩
  refine⟨u,by simp[hv], ?_⟩
  have:=hcl.vr off c.unf _ (by simp[hc]) (by simpa using hv)
  exact this
theorem QgK{t:TypeId}{d:TypeDesc}(hd:P.underlying t=some d){i:TypeInfo}(hi:P.info? t=some i){vs:Array Value}{off:Nat}{x:D}{cs:List D}
  (h:DR g.bd w (.agg cs) (.agg vs))(ha:readD (isAggT P t) i.size (cs.drop off)=some x):
  ∃v,(part t vs off).run P w= .ok v w∧VR g w (.d x) v:=by
 cases h with
 |agg _ _ hl hf h=>
  unfold readD at ha
  unfold part
  rw[Sem.run_bind,Qb7 t hd,Result.andThen_ok]
  cases hA:isAggT P t with
  |true=>
   simp only[hA,if_true]at ha
   split at ha
   ·rename_i hle
    simp at ha hle;subst ha
    simp only[if_true,Sem.run_bind,Qaj hi,Result.andThen_ok,Sem.run_pure]
    refine⟨_,rfl,.d _ _ (.agg _ _ (by simp;omega) (fun c hc=>hf c (List.mem_of_mem_drop (List.mem_of_mem_take hc))) (fun k c u hk hu=> ?_))⟩
    have hki:k<i.size:=by have:=(List.getElem?_eq_some_iff.1 hk).1;simp at this;omega
    simp only[List.getElem?_take,hki,if_true,List.getElem?_drop]at hk
    rw[Array.getElem?_extract]at hu
    split at hu
    ·exact h _ c u hk hu
    ·simp at hu
   ·simp at ha
  |false=>
   simp only[hA,Bool.false_eq_true,if_false,List.getElem?_drop,Nat.add_zero]at ha
   have hlt:=(List.getElem?_eq_some_iff.1 ha).1
   obtain⟨u,hv⟩:∃u,vs[off]? =some u:=⟨_,Array.getElem?_eq_getElem (by omega)⟩
   exact⟨u,by simp[hv],.d _ _ (h off x u ha hv)⟩
theorem agg_cl{cs:List AV}{v:Value}(h:VR g w (.agg cs) v):∃vs,v= .agg vs∧CL g w (cs.map AV.unf) vs.toList:=by
 cases h with
 |agg _ vs hl hf h ht=>
  have k:CL g w cs vs.toList:=⟨by simpa using hl,hf,fun i c v hc hv=>⟨h i c v hc (by simpa using hv),ht i c v hc (by simpa using hv)⟩⟩
  exact⟨vs,rfl,k.unf⟩
theorem Qit{s:TypeId}{f:Nat}{fs:Array Field}(hd:P.underlying s=some (.struct fs)){fl:Field}(hf:fs.toList[f]? =some fl){z:Nat}(hz:QaX P fl.type=some z)
  {d:TypeDesc}(hdf:P.underlying fl.type=some d){cs:List AV}{v:Value}(hv:VR g w (.agg cs) v){a:AV}(ha:readCells (isAggT P fl.type) z cs fl.offset=some a):
  ∃u,(Instr.field s v f).run P w= .ok u w∧VR g w a u∧Triv a u:=by
 obtain⟨vs,rfl,hcl⟩:=agg_cl hv
 obtain⟨i,hi,rfl⟩:=Qan hz
 rw[Array.getElem?_toList]at hf
 obtain⟨u,h1,h2⟩:=QeV (P:=P) hdf hi hcl ha
 exact⟨u,by simp[Instr.field,run_underlying hd,hf,asAgg,h1],h2⟩
theorem Qlg{s:TypeId}{f:Nat}{fs:Array Field}(hd:P.underlying s=some (.struct fs)){fl:Field}(hf:fs.toList[f]? =some fl){z:Nat}(hz:QaX P fl.type=some z)
  {d:TypeDesc}(hdf:P.underlying fl.type=some d){cs:List D}{v:Value}(hv:VR g w (.d (.agg cs)) v){x:D}(ha:readD (isAggT P fl.type) z (cs.drop fl.offset)=some x):
  ∃u,(Instr.field s v f).run P w= .ok u w∧VR g w (.d x) u:=by
 have hv:=hv.d_inv
 obtain⟨i,hi,rfl⟩:=Qan hz
 rw[Array.getElem?_toList]at hf
 obtain⟨vs,rfl⟩:∃vs,v= .agg vs:=by cases hv;exact⟨_,rfl⟩
 obtain⟨u,h1,h2⟩:=QgK (P:=P) hdf hi hv ha
 exact⟨u,by simp[Instr.field,run_underlying hd,hf,asAgg,h1],h2⟩
theorem Qde{a:AV}{v:Value}{n:Int}(h:VR g w a v)(e:a.int? =some n):∃k,v= .int k n:=by
 cases h with
 |d x v h=>
  cases h<;>simp[AV.int?]at e
  case int k m=>subst e;exact⟨k,rfl⟩
 |_=>simp[AV.int?]at e
theorem QcE{a:AV}{v:Value}{xs:List D}(h:VR g w a v)(e:a.elems=some xs):DR g.bd w (.slice xs) v:=by
 cases h with
 |d x v h=>cases x<;>simp[AV.elems]at e;subst e;exact h
 |fsl ys v h=>simp[AV.elems]at e;subst e;exact h
 |lit ys b n c h ho=>simp[AV.elems]at e;subst e;exact h
 |_=>simp[AV.elems]at e
theorem op_idxSl{t e:TypeId}(hd:P.underlying t=some (.slice e)){s:Nat}(hs:QaX P e=some s){a:AV}{v iv:Value}{n:Int}{k:IntKind}(hi:iv= .int k n)
  (hv:VR g w a v){xs:List D}(hx:a.elems=some xs)(h0:0≤n){x:D}(hn:xs[n.toNat]? =some x)(hsz:x.cells.length=s):
  ∃u,(Instr.indexAt t v iv).run P w= .ok u w∧VR g w (.pref x.cells) u:=by
 subst hi
 obtain⟨i,hi,rfl⟩:=Qan hs
 have hlt:=(List.getElem?_eq_some_iff.1 hn).1
 cases QcE hv hx with
 |slnil=>simp at hlt
 |sle a cap=>simp at hlt
 |slice _ b off len cap sz vs hlen hcap hu hf hc h=>
  have hs':sz=i.size:=by rw[←hu x (List.mem_of_getElem? hn),hsz]
  subst hs'
  have hb:0≤n∧n<(len:Int):=⟨h0,by omega⟩
  have hmul:n.toNat*i.size+i.size≤xs.length*i.size:=by
   have:=Nat.mul_le_mul_right i.size (Nat.succ_le_of_lt hlt)
   rwa [Nat.succ_mul]at this
  refine⟨.pointer (some ⟨b,off+n.toNat*i.size,none⟩),by simp[Instr.indexAt,asIntOf,run_underlying hd,hb,Qaj hi,add_lit], ?_⟩
  refine .pref _ _ _ (fun j=>vs (n.toNat*i.size+j)) (hf x (List.mem_of_getElem? hn)) (fun j hj=> ?_) (fun j c hj=>h _ j x c hn hj)
  rw[hsz]at hj
  have:=hc (n.toNat*i.size+j) (by omega)
  rwa [←Nat.add_assoc]at this
theorem Qir{t e:TypeId}(hd:P.underlying t=some (.slice e)){s:Nat}(hs:QaX P e=some s){v iv:Value}{n:Int}{k:IntKind}(hi:iv= .int k n)
  {r off len cap z:Nat}(hv:VR g w (.oslice r off len cap z) v)(h0:0≤n)(hn:n<len):
  ∃u,(Instr.indexAt t v iv).run P w= .ok u w∧VR g w (.ptr r (off+n.toNat*s)) u:=by
 subst hi
 obtain⟨i,hi,rfl⟩:=Qan hs
 cases hv with
 |osl _ _ _ _ _ _ hr hc hcc hz=>
  exact⟨.pointer (some ⟨g.rho r,off+n.toNat*i.size,none⟩),by simp[Instr.indexAt,asIntOf,run_underlying hd,h0,hn,Qaj hi,add_lit],.ptr _ _ hr⟩
theorem Qis{t e:TypeId}{m:Nat}(hd:P.underlying t=some (.array m e)){s:Nat}(hs:QaX P e=some s){iv:Value}{n:Int}{k:IntKind}(hi:iv= .int k n)
  (b off:Nat)(h0:0≤n)(hn:n<m):(Instr.indexAt t (.pointer (some ⟨b,off,none⟩)) iv).run P w= .ok (.pointer (some ⟨b,off+n.toNat*s,none⟩)) w:=by
 subst hi
 obtain⟨i,hi,rfl⟩:=Qan hs
 simp[Instr.indexAt,asIntOf,run_underlying hd,Instr.sureAddr,h0,hn,Qaj hi,add_lit]
theorem QdF{l:List UInt8}{v:Value}(h:VR g w (.d (.str l)) v):∃s:ByteArray,v= .string s∧s.data.toList=l:=by
 have h:=h.d_inv
 cases h with
 |str=>exact⟨_,rfl,by assumption⟩
theorem ba_getElem? (s:ByteArray)(i:Nat):s[i]? =s.data.toList[i]? :=by
 by_cases h:i<s.size
 ·have h':i<s.data.toList.length:=by simpa using h
  rw[List.getElem?_eq_getElem h',getElem?_pos s i h]
  simp[ByteArray.getElem_eq_getElem_data]
 ·have h':¬i<s.data.toList.length:=by simpa using h
  rw[List.getElem?_eq_none (by omega),getElem?_neg s i h]
theorem QmG{t:TypeId}(hd:P.underlying t=some .string){v iv:Value}{n:Int}{k:IntKind}(hi:iv= .int k n)
  {l:List UInt8}(hv:VR g w (.d (.str l)) v)(h0:0≤n){c:UInt8}(hn:l[n.toNat]? =some c):
  (Instr.index t v iv).run P w= .ok (.int .u8 (c.toNat:Int)) w:=by
 subst hi
 obtain⟨s,rfl,rfl⟩:=QdF hv
 rw[←ba_getElem?]at hn
 simp[Instr.index,asIntOf,run_underlying hd,h0,hn]
theorem QmH{t e:TypeId}{m:Nat}(hd:P.underlying t=some (.array m e)){de:TypeDesc}(hde:P.underlying e=some de){s:Nat}(hs:QaX P e=some s){v iv:Value}{n:Int}{k:IntKind}(hi:iv= .int k n)
  {cs:List AV}(hv:VR g w (.agg cs) v)(h0:0≤n)(hn:n<m){a:AV}(ha:readCells (isAggT P e) s cs (n.toNat*s)=some a):
  ∃u,(Instr.index t v iv).run P w= .ok u w∧VR g w a u∧Triv a u:=by
 subst hi
 obtain⟨i,hi,rfl⟩:=Qan hs
 obtain⟨vs,rfl,hcl⟩:=agg_cl hv
 obtain⟨u,h1,h2⟩:=QeV (P:=P) hde hi hcl ha
 exact⟨u,by simp[Instr.index,asIntOf,run_underlying hd,h0,hn,Qaj hi,h1],h2⟩
theorem Qjw{t e:TypeId}{m:Nat}(hd:P.underlying t=some (.array m e)){de:TypeDesc}(hde:P.underlying e=some de){s:Nat}(hs:QaX P e=some s){v iv:Value}{n:Int}{k:IntKind}(hi:iv= .int k n)
  {cs:List D}(hv:VR g w (.d (.agg cs)) v)(h0:0≤n)(hn:n<m){x:D}(ha:readD (isAggT P e) s (cs.drop (n.toNat*s))=some x):
  ∃u,(Instr.index t v iv).run P w= .ok u w∧VR g w (.d x) u:=by
 subst hi
 obtain⟨i,hi,rfl⟩:=Qan hs
 have hv:=hv.d_inv
 obtain⟨vs,rfl⟩:∃vs,v= .agg vs:=by cases hv;exact⟨_,rfl⟩
 obtain⟨u,h1,h2⟩:=QgK (P:=P) hde hi hv ha
 exact⟨u,by simp[Instr.index,asIntOf,run_underlying hd,h0,hn,Qaj hi,h1],h2⟩
def dval:D→Value
 |.int k n=> .int k n
 |.bool b=> .bool b
 |_=>undef
theorem Qk5{op:BinOp}{k:IntKind}{a b:Int}{x:D}(hs:isShift op=false)(h:QbW op k a b=some x)(t:TypeId)(y z:Operand):
  ∃v,(do eqGuard op t y z (.int k a) (.int k b);binOp op t (.int k a) (.int k b):Sem Value).run P w= .ok v w∧DR g.bd w x v:=by
 have hg:eqGuard op t y z (.int k a) (.int k b)=pure ():=by cases op<;>rfl
 rw[hg]
 refine⟨dval x, ?_, ?_⟩
 ·cases op<;>simp only[QbW]at h<;>first
   |(simp[isShift]at hs;done)
   |(simp at h;subst h;simp[binOp,Op.intArith,Op.intCmp,Op.intBits,dval];done)
   |(split at h
     ·simp at h
     ·rename_i hb
      simp at h;subst h;simp[binOp,Op.intDiv,hb,dval])
 ·cases op<;>simp only[QbW]at h<;>first
   |(simp[isShift]at hs;done)
   |(simp at h;subst h;first|exact .int _ _|exact .bool _)
   |(split at h
     ·simp at h
     ·simp at h;subst h;exact .int _ _)
theorem Qh7{op:BinOp}{k j:IntKind}{a b:Int}{x:D}(hs:isShift op=true)(h:QbH op k a b=some x)(t:TypeId)(y z:Operand):
  ∃v,(do eqGuard op t y z (.int k a) (.int j b);binOp op t (.int k a) (.int j b):Sem Value).run P w= .ok v w∧DR g.bd w x v:=by
 have hg:eqGuard op t y z (.int k a) (.int j b)=pure ():=by cases op<;>rfl
 rw[hg]
 unfold QbH at h
 split at h
 ·simp at h
 ·rename_i hb
  refine⟨dval x, ?_, ?_⟩
  ·cases op<;>first
    |(simp[isShift]at hs;done)
    |(simp at h;subst h;simp[binOp,Op.shift,hb,dval])
  ·cases op<;>first
    |(simp[isShift]at hs;done)
    |(simp at h;subst h;exact .int _ _)
theorem Qg9:∀a b:List UInt8,Qdk a b=Op.bytesLess a b
 |_,[]=>by simp[Qdk,Op.bytesLess]
 | [],_::_=>rfl
 |a::x,b::y=>by simp[Qdk,Op.bytesLess,Qg9 x y]
theorem Qef(s:ByteArray):s.toList=s.data.toList:=by
 have key:∀(n i:Nat) (r:List UInt8),s.size-i=n→ByteArray.toList.loop s i r=r.reverse++s.data.toList.drop i:=by
  intro n
  induction n with
  |zero=>
   intro i r h
   unfold ByteArray.toList.loop
   rw[if_neg (by omega),List.drop_eq_nil_of_le (by simp;omega)]
   simp
  |succ n ih=>
   intro i r h
   unfold ByteArray.toList.loop
   have hi:i<s.size:=by omega
   rw[if_pos hi,ih (i+1) _ (by omega)]
   have hi':i<s.data.toList.length:=by simpa using hi
   rw[List.drop_eq_getElem_cons hi']
   simp[ByteArray.get!,hi]
 have:=key s.size 0 [] (by omega)
 simpa[ByteArray.toList]using this
theorem Qk4{op:BinOp}{a b:List UInt8}{x:D}(h:binStr op a b=some x){s u:ByteArray}(hs:s.data.toList=a)(hu:u.data.toList=b)(t:TypeId)(y z:Operand):
  ∃v,(do eqGuard op t y z (.string s) (.string u);binOp op t (.string s) (.string u):Sem Value).run P w= .ok v w∧DR g.bd w x v:=by
 have hg:eqGuard op t y z (.string s) (.string u)=pure ():=by cases op<;>rfl
 rw[hg]
 subst hs hu
 have hb:∀op,op= .add∨op= .eql∨op= .neq∨op= .lss∨op= .leq∨op= .gtr∨op= .geq→binOp op t (.string s) (.string u)=Op.stringOp op s u:=by
  intro op h;rcases h with h|h|h|h|h|h|h<;>subst h<;>rfl
 have hsz:s.data.toList.length=s.size∧u.data.toList.length=u.size:=⟨by simp,by simp⟩
 cases op<;>simp only[binStr]at h<;>first
  |(simp at h;done)
  |(rw[hb _ (by simp)];simp at h;subst h
    refine⟨dval (.bool _), ?_,.bool _⟩
    simp[Op.stringOp,Qef,Qg9,dval];done)
  |(rw[hb _ (by simp)]
    split at h
    ·rename_i hle
     simp at h;subst h
     refine⟨.string (s++u), ?_,.str _ _ (by simp)⟩
     rw[hsz.1,hsz.2]at hle
     have hlt:¬(9223372036854775807:Int)<(s.size:Int)+(u.size:Int):=by omega
     simp[Op.stringOp,hlt]
    ·simp at h)
end ops
end Go.Abs
namespace Go.Abs
open Go.RowKit
variable [Tab]
section ops
variable {P:Program} {g:Gh} {H:Qab} {w:World} {cons:List Nat}
theorem D.beqs_iff_aux:∀(n:Nat),(∀x y:D,SizeOf.sizeOf x≤n→(D.beq x y=true↔x=y))∧(∀xs ys:List D,SizeOf.sizeOf xs≤n→(D.beqs xs ys=true↔xs=ys)):=by
 intro n
 induction n with
 |zero=>
  refine⟨fun x y h=> ?_,fun xs ys h=> ?_⟩
  ·cases x<;>simp at h
  ·cases xs<;>simp at h
 |succ n ih=>
  have hd:∀x y:D,SizeOf.sizeOf x≤n+1→(D.beq x y=true↔x=y):=by
   intro x y h
   cases x<;>cases y<;>simp only[D.beq,Bool.false_eq_true,false_iff,Bool.and_eq_true,decide_eq_true_eq,beq_iff_eq,D.int.injEq,D.bool.injEq,D.str.injEq,D.slice.injEq,D.agg.injEq]<;>try(first|simp;done|(intro e;cases e;done))
   ·exact ih.2 _ _ (by simp at h;omega)
   ·exact ih.2 _ _ (by simp at h;omega)
  refine⟨hd,fun xs ys h=> ?_⟩
  cases xs<;>cases ys<;>simp[D.beqs]
  simp at h
  rw[ih.1 _ _ (by omega),ih.2 _ _ (by omega)]
theorem D.beq_iff(x y:D):D.beq x y=true↔x=y:=(D.beqs_iff_aux (SizeOf.sizeOf x)).1 x y (Nat.le_refl _)
theorem D.beqs_iff(x y:List D):D.beqs x y=true↔x=y:=(D.beqs_iff_aux (SizeOf.sizeOf x)).2 x y (Nat.le_refl _)
theorem D.beq_self(x:D):D.beq x x=true:=(D.beq_iff x x).2 rfl
theorem D.beqs_self(x:List D):D.beqs x x=true:=(D.beqs_iff x x).2 rfl
theorem AV.beq_aux:∀(n:Nat),(∀x y:AV,SizeOf.sizeOf x≤n→AV.beq x y=true→x=y)∧(∀xs ys:List AV,SizeOf.sizeOf xs≤n→AV.beqs xs ys=true→xs=ys):=by
 intro n
 induction n with
 |zero=>
  constructor
  ·intro x y hx;cases x<;>simp at hx<;>omega
  ·intro xs ys hx;cases xs<;>simp at hx<;>omega
 |succ n ih=>
  constructor
  ·intro x y hx h
   cases x<;>cases y<;>simp only[AV.beq,Bool.and_eq_true,beq_iff_eq,decide_eq_true_eq,Bool.false_eq_true,D.beq_iff,D.beqs_iff]at h<;>first
    |rfl
    |(subst h;rfl)
    |(obtain⟨⟨⟨⟨rfl,rfl⟩,rfl⟩,rfl⟩,rfl⟩:=h;rfl)
    |(obtain⟨rfl,rfl⟩:=h;rfl)
    |(simp at hx;rw[ih.2 _ _ (by omega) h])
    |(obtain⟨rfl,h⟩:=h;simp at hx;rw[ih.2 _ _ (by omega) h])
    |(obtain⟨rfl,h⟩:=h;simp at hx;rw[ih.1 _ _ (by omega) h])
    |exact absurd h (by simp)
  ·intro xs ys hx h
   cases xs<;>cases ys<;>simp only[AV.beqs,Bool.and_eq_true,Bool.false_eq_true]at h
   ·rfl
   ·simp at hx
    obtain⟨h1,h2⟩:=h
    rw[ih.1 _ _ (by omega) h1,ih.2 _ _ (by omega) h2]
theorem AV.beq_eq{x y:AV}(h:AV.beq x y=true):x=y:=(AV.beq_aux _).1 x y (Nat.le_refl _) h
theorem AV.beqs_eq{x y:List AV}(h:AV.beqs x y=true):x=y:=(AV.beq_aux _).2 x y (Nat.le_refl _) h
theorem QiQ:∀ {x y:List (D×AV)},Qe5 x y=true→x=y
 | [],[],_=>rfl
 | [],_::_,h=>by simp[Qe5]at h
 |_::_,[],h=>by simp[Qe5]at h
 |(k,v)::xs,(j,w)::ys,h=>by
  simp only[Qe5,Bool.and_eq_true,D.beq_iff]at h
  obtain⟨⟨rfl,h1⟩,h2⟩:=h
  rw[AV.beq_eq h1,QiQ h2]
theorem AObj.beq_eq{x y:AObj}(h:AObj.beq x y=true):x=y:=by
 cases x<;>cases y<;>simp only[AObj.beq,Bool.and_eq_true,beq_iff_eq,decide_eq_true_eq,Bool.false_eq_true]at h
 ·rw[AV.beqs_eq h]
 ·obtain⟨rfl,h⟩:=h;rw[QiQ h]
 ·obtain⟨rfl,rfl⟩:=h;rfl
 ·rfl
theorem Qb4:∀ {x y:Qab},Qcs x y=true→x=y
 | [],[],_=>rfl
 | [],_::_,h=>by simp[Qcs]at h
 |_::_,[],h=>by simp[Qcs]at h
 |x::xs,y::ys,h=>by
  simp only[Qcs,Bool.and_eq_true]at h
  rw[AObj.beq_eq h.1,Qb4 h.2]
mutual
theorem AV.beq_self:∀x:AV,AV.beq x x=true
 |.undef=>rfl
 |.d x=>D.beq_self x
 |.fslice xs=>D.beqs_self xs
 |.lit xs=>D.beqs_self xs
 |.ptr r o=>by simp[AV.beq]
 |.pref cs=>D.beqs_self cs
 |.oslice _ _ _ _ _=>by simp[AV.beq]
 |.agg cs=>AV.beqs_self cs
 |.tuple cs=>AV.beqs_self cs
 |.mapr a=>by simp[AV.beq]
 |.nilmap=>rfl
 |.func f cs=>by rw[AV.beq,AV.beqs_self cs];simp
 |.nilfunc=>rfl
 |.iface t v=>by rw[AV.beq,AV.beq_self v];simp
 |.niliface=>rfl
 |.ubool=>rfl
theorem AV.beqs_self:∀xs:List AV,AV.beqs xs xs=true
 | []=>rfl
 |x::xs=>by rw[AV.beqs,AV.beq_self x,AV.beqs_self xs];rfl
end
theorem Qgg:∀es:List (D×AV),Qe5 es es=true
 | []=>rfl
 |(k,v)::es=>by rw[Qe5,D.beq_self,AV.beq_self,Qgg es];rfl
theorem AObj.beq_self(o:AObj):AObj.beq o o=true:=by
 cases o<;>simp[AObj.beq,AV.beqs_self,Qgg]
theorem QbR:∀H:Qab,Qcs H H=true
 | []=>rfl
 |x::xs=>by rw[Qcs,AObj.beq_self,QbR xs];rfl
theorem QiO(t:TypeId)(v u:Value):Op.equal t v u=Op.equalIn (9999+1) t v u:=rfl
theorem Qfl{k:EqK}{x y:AV}{v u:Value}(hx:VR g w x v)(hy:VR g w y u){b:Bool}(h:nilEq k x y=some b)(t:TypeId){d:TypeDesc}(hd:P.underlying t=some d)
  (hk:match k with|.ptr=>∃e,d= .pointer e|.iface=>∃e,d= .interface e|.map=>∃e f,d= .map e f|.func=>∃e f c,d= .func e f c|_=>False):
  (Op.equal t v u).run P w= .ok b w:=by
 rw[QiO]
 unfold Op.equalIn
 rw[Sem.run_bind,run_underlying hd,Result.andThen_ok]
 have i1:∀ {v:Value},VR g w (.d .nilptr) v→v= .pointer none:=fun h=>by have h:=h.d_inv;cases h;rfl
 have i2:∀ {r o:Nat} {v:Value},VR g w (.ptr r o) v→∃a,v= .pointer (some a):=fun h=>by cases h;exact⟨_,rfl⟩
 have i3:∀ {cs:List D} {v:Value},VR g w (.pref cs) v→∃a,v= .pointer (some a):=fun h=>by cases h;exact⟨_,rfl⟩
 unfold nilEq at h
 split at h<;>(try(simp at h;done))<;>simp at h<;>subst h<;>simp only at hk
 ·obtain⟨e,rfl⟩:=hk;rw[i1 hx,i1 hy];simp
 ·obtain⟨e,rfl⟩:=hk;obtain⟨a,rfl⟩:=i2 hy;rw[i1 hx];simp
 ·obtain⟨e,rfl⟩:=hk;obtain⟨a,rfl⟩:=i2 hx;rw[i1 hy];simp
 ·obtain⟨e,rfl⟩:=hk;obtain⟨a,rfl⟩:=i3 hy;rw[i1 hx];simp
 ·obtain⟨e,rfl⟩:=hk;obtain⟨a,rfl⟩:=i3 hx;rw[i1 hy];simp
 ·obtain⟨e,rfl⟩:=hk;cases hx;cases hy;simp
 ·obtain⟨e,rfl⟩:=hk;cases hx;cases hy;simp
 ·obtain⟨e,rfl⟩:=hk;cases hx;cases hy;simp
 ·obtain⟨e,f,rfl⟩:=hk;cases hx;cases hy;simp
 ·obtain⟨e,f,rfl⟩:=hk;cases hx;cases hy;simp
 ·obtain⟨e,f,rfl⟩:=hk;cases hx;cases hy;simp
 ·obtain⟨e,f,c,rfl⟩:=hk;cases hx;cases hy;simp
 ·obtain⟨e,f,c,rfl⟩:=hk;cases hx;cases hy;simp
 ·obtain⟨e,f,c,rfl⟩:=hk;cases hx;cases hy;simp
theorem QgB{d:Nat}{xs ys:Array Value}{cs ds:List D}(hx:DR g.bd w (.agg cs) (.agg xs))(hy:DR g.bd w (.agg ds) (.agg ys)):
  ∀(fs:List Field) (i:Nat) (ks:List FK),Qcg P i fs=some ks→QbG ks (cs.drop i) (ds.drop i)=true→
   (Op.eqFields (d+1) xs ys fs).run P w= .ok (D.beqs (cs.drop i) (ds.drop i)) w:=by
 cases hx with
 |agg _ _ hlx hfx hx=>
 cases hy with
 |agg _ _ hly hfy hy=>
 intro fs
 induction fs with
 |nil=>
  intro i ks hk hc
  simp[Qcg]at hk;subst hk
  cases h1:cs.drop i<;>cases h2:ds.drop i<;>simp[h1,h2,QbG]at hc
  simp[Op.eqFields,D.beqs]
 |cons f fs ih=>
  intro i ks hk hc
  simp only[Qcg]at hk
  split at hk
  ·rename_i k ks' hfk hks
   split at hk
   ·rename_i hcond
    simp at hk;subst hk
    simp only[Bool.and_eq_true,bne_iff_ne,ne_eq,beq_iff_eq]at hcond
    obtain⟨⟨hn,hsz⟩,hoff⟩:=hcond
    obtain⟨ti,hti,hti1⟩:=Qan hsz
    cases h1:cs.drop i with
    |nil=>cases k<;>simp[h1,QbG]at hc
    |cons c cs'=>
    cases h2:ds.drop i with
    |nil=>cases k<;>cases c<;>simp[h1,h2,QbG]at hc
    |cons e ds'=>
    have hc1:cs[i]? =some c:=by have:=congrArg (·[0]?) h1;simpa using this
    have hd1:ds[i]? =some e:=by have:=congrArg (·[0]?) h2;simpa using this
    have hc2:cs.drop (i+1)=cs':=by rw[←List.drop_drop,h1];simp
    have hd2:ds.drop (i+1)=ds':=by rw[←List.drop_drop,h2];simp
    obtain⟨u,hu⟩:∃u,xs[i]? =some u:=⟨_,Array.getElem?_eq_getElem (by have:=(List.getElem?_eq_some_iff.1 hc1).1;omega)⟩
    obtain⟨v,hv⟩:∃v,ys[i]? =some v:=⟨_,Array.getElem?_eq_getElem (by have:=(List.getElem?_eq_some_iff.1 hd1).1;omega)⟩
    have du:=hx i c u hc1 hu
    have dv:=hy i e v hd1 hv
    rw[h1,h2]at hc
    have hpart:∀(zs:Array Value) (z:Value),zs[i]? =some z→isAggT P f.type=false→∀d',P.underlying f.type=some d'→(part f.type zs f.offset).run P w= .ok z w:=by
     intro zs z hz hA d' hd'
     simp[part,Qb7 f.type hd',hA,hoff,hz]
    have key:∀(b:Bool) (rest:QbG ks' cs' ds'=true),isAggT P f.type=false→(∃d',P.underlying f.type=some d')→(Op.equalIn (d+1) f.type u v).run P w= .ok b w→D.beq c e=b→
      (Op.eqFields (d+1) xs ys (f::fs)).run P w= .ok (D.beqs (c::cs') (e::ds')) w:=by
     intro b rest hA hd' he hb
     obtain⟨d',hd'⟩:=hd'
     have ih':=ih (i+1) ks' hks (by rw[hc2,hd2];exact rest)
     rw[hc2,hd2]at ih'
     rw[Op.eqFields]
     simp only[ne_eq,hn,not_false_eq_true,if_true,Sem.run_bind,hpart xs u hu hA d' hd',hpart ys v hv hA d' hd',he,Result.andThen_ok,D.beqs,hb]
     cases b
     ·simp
     ·simpa using ih'
    unfold fkOf at hfk
    split at hfk<;>simp at hfk<;>subst hfk
    ·rename_i kk hun
     cases c<;>cases e<;>simp[QbG]at hc
     cases du;cases dv
     obtain⟨rfl,hc⟩:=hc
     refine key _ hc (by simp[isAggT,hun]) ⟨_,hun⟩ (run_equalIn_int w d f.type _ _ _ _ hun) (by simp[D.beq])
    ·rename_i hun
     cases c<;>cases e<;>simp[QbG]at hc
     cases du;cases dv
     refine key _ hc (by simp[isAggT,hun]) ⟨_,hun⟩ (run_equalIn_string w d f.type _ _ hun) (by simp only[D.beq,Qef];simp_all)
    ·rename_i hun
     cases c<;>cases e<;>simp[QbG]at hc
     cases du;cases dv
     refine key _ hc (by simp[isAggT,hun]) ⟨_,hun⟩ (run_equalIn_bool' w d f.type _ _ hun) (by simp[D.beq])
   ·simp at hk
  ·simp at hk
theorem QfR{t:TypeId}{ks:List FK}(h:Qht P t=some ks){cs ds:List D}{v u:Value}(hx:DR g.bd w (.agg cs) v)(hy:DR g.bd w (.agg ds) u)(hc:QbG ks cs ds=true)(y z:Operand)(neg:Bool):
  (do eqGuard (if neg then .neq else .eql) t y z v u;binOp (if neg then .neq else .eql) t v u:Sem Value).run P w= .ok (.bool (if neg then !(D.beqs cs ds)else D.beqs cs ds)) w:=by
 obtain⟨xs,rfl⟩:∃vs,v= .agg vs:=by cases hx;exact⟨_,rfl⟩
 obtain⟨ys,rfl⟩:∃vs,u= .agg vs:=by cases hy;exact⟨_,rfl⟩
 unfold Qht at h
 split at h
 ·rename_i fs hun
  split at h
  ·rename_i hcond
   simp only[Bool.and_eq_true,Bool.not_eq_true']at hcond
   have hf:P.fieldsOf t=fs:=by simp[Program.fieldsOf,hun]
   have he:=QgB (d:=9998) (P:=P) hx hy fs.toList 0 ks h (by simpa using hc)
   simp only[List.drop_zero]at he
   have he':(Op.equalIn 10000 t (.agg xs) (.agg ys)).run P w= .ok (D.beqs cs ds) w:=by
    rw[run_equalIn_struct (P:=P) w 9999 t xs ys (by rw[hf];exact hun) hcond.1,hf];exact he
   rw[Sem.run_bind,run_eqGuard_agg w _ t y z xs ys hcond.2,Result.andThen_ok]
   cases neg
   ·simp[run_eql_struct,he']
   ·simp[run_neq_struct,he']
  ·simp at h
 ·simp at h
end ops
end Go.Abs
namespace Go.Abs
open Go.RowKit
variable [Tab]
section ops
variable {P:Program} {g:Gh} {H:Qab} {w:World} {cons:List Nat}
theorem QhJ{k:EqK}{x y:AV}{v u:Value}(hx:VR g w x v)(hy:VR g w y u){b:Bool}(h:nilEq k x y=some b)(op:BinOp)(t:TypeId)(p q:Operand)
  (hc:k= .iface→(∃c,p= .const c)∨∃c,q= .const c):eqGuard op t p q v u=pure ():=by
 have i1:∀ {v:Value},VR g w (.d .nilptr) v→v= .pointer none:=fun h=>by have h:=h.d_inv;cases h;rfl
 unfold nilEq at h
 split at h<;>(try(simp at h;done))<;>(try(rw[i1 hx];cases op<;>rfl))<;>(try(rw[i1 hy];cases hx;cases op<;>rfl))
 all_goals(cases hx;cases hy)
 all_goals(try(cases op<;>rfl))
 rcases hc rfl with⟨c,rfl⟩|⟨c,rfl⟩
 ·cases op<;>rfl
 ·cases op<;>cases p<;>rfl
theorem Qlk{k:EqK}{x y:AV}{v u:Value}(hx:VR g w x v)(hy:VR g w y u){b:Bool}(h:nilEq k x y=some b)(t:TypeId):
  binOp .eql t v u=Value.bool<$>Op.equal t v u∧binOp .neq t v u=(fun a=>Value.bool !a)<$>Op.equal t v u:=by
 have i1:∀ {v:Value},VR g w (.d .nilptr) v→v= .pointer none:=fun h=>by have h:=h.d_inv;cases h;rfl
 unfold nilEq at h
 split at h<;>(try(simp at h;done))<;>(try rw[i1 hx])<;>(try rw[i1 hy])<;>(try cases hx)<;>(try cases hy)<;>simp[binOp]
def KOK(P:Program)(t:TypeId)(p q:Operand):EqK→Prop
 |.none=>True
 |.plain ks=>Qht P t=some ks
 |.bool=>P.underlying t=some .bool
 |.ptr=>∃e,P.underlying t=some (.pointer e)
 |.iface=>(∃e,P.underlying t=some (.interface e))∧((∃c,p= .const c)∨∃c,q= .const c)
 |.map=>∃e f,P.underlying t=some (.map e f)
 |.func=>∃e f c,P.underlying t=some (.func e f c)
theorem op_bin{op:BinOp}{t:TypeId}{k:EqK}{x y:AV}{v u:Value}(hx:VR g w x v)(hy:VR g w y u){a:AV}(p q:Operand)(hk:KOK P t p q k)(h:binV op k x y=some a):
  ∃r,(do eqGuard op t p q v u;binOp op t v u:Sem Value).run P w= .ok r w∧VR g w a r∧Triv a r:=by
 have rest:∀ {b:Bool} {a:AV},nilEq k x y=some b→op= .eql∧a=boolD b∨op= .neq∧a=boolD (!b)→
   ∃r,(do eqGuard op t p q v u;binOp op t v u:Sem Value).run P w= .ok r w∧VR g w a r∧Triv a r:=by
  intro b a hb ho
  have hc:k= .iface→(∃c,p= .const c)∨∃c,q= .const c:=by
   intro e;subst e;exact hk.2
  rw[QhJ hx hy hb op t p q hc]
  obtain⟨e1,e2⟩:=Qlk hx hy hb t
  have he:(Op.equal t v u).run P w= .ok b w:=by
   cases k with
   |none=>simp[nilEq]at hb
   |plain ks=>simp[nilEq]at hb
   |bool=>simp[nilEq]at hb
   |ptr=>obtain⟨e,he⟩:=hk;exact Qfl hx hy hb t he ⟨e,rfl⟩
   |iface=>obtain⟨⟨e,he⟩,_⟩:=hk;exact Qfl hx hy hb t he ⟨e,rfl⟩
   |map=>obtain⟨e,f,he⟩:=hk;exact Qfl hx hy hb t he ⟨e,f,rfl⟩
   |func=>obtain⟨e,f,c,he⟩:=hk;exact Qfl hx hy hb t he ⟨e,f,c,rfl⟩
  rcases ho with⟨rfl,rfl⟩|⟨rfl,rfl⟩
  ·exact⟨.bool b,by simp[e1,he],.d _ _ (.bool _),Triv.d _ _⟩
  ·exact⟨.bool (!b),by simp[e2,he],.d _ _ (.bool _),Triv.d _ _⟩
 unfold binV at h
 split at h
 ·
  have hx:=hx.d_inv
  have hy:=hy.d_inv
  cases hx;cases hy
  split at h
  ·rename_i hs
   simp only[Option.map_eq_some_iff]at h
   obtain⟨z,hz,rfl⟩:=h
   obtain⟨r,h1,h2⟩:=Qh7 (P:=P) (g:=g) (w:=w) hs hz t p q
   exact⟨r,h1,.d _ _ h2,Triv.d _ _⟩
  ·rename_i hs
   split at h
   ·rename_i e;subst e
    simp only[Option.map_eq_some_iff]at h
    obtain⟨z,hz,rfl⟩:=h
    obtain⟨r,h1,h2⟩:=Qk5 (P:=P) (g:=g) (w:=w) (by simpa using hs) hz t p q
    exact⟨r,h1,.d _ _ h2,Triv.d _ _⟩
   ·simp at h
 ·have hx:=hx.d_inv
  have hy:=hy.d_inv
  cases hx;cases hy
  simp only[Option.map_eq_some_iff]at h
  obtain⟨z,hz,rfl⟩:=h
  obtain⟨r,h1,h2⟩:=Qk4 (P:=P) (g:=g) (w:=w) hz (by assumption) (by assumption) t p q
  exact⟨r,h1,.d _ _ h2,Triv.d _ _⟩
 ·rename_i a b
  have hx:=hx.d_inv
  have hy:=hy.d_inv
  cases hx;cases hy
  split at h
  ·rename_i hkb
   subst hkb
   have he:=run_equalIn_bool (P:=P) w 9999 t a b hk
   have he':(Op.equal t (.bool a) (.bool b)).run P w= .ok (a==b) w:=he
   split at h
   ·simp at h;subst h
    exact⟨_,by simp[eqGuard_at_bool,binOp,he'],.d _ _ (.bool _),Triv.d _ _⟩
   ·simp at h;subst h
    exact⟨_,by simp[eqGuard_at_bool,binOp,he'],.d _ _ (.bool _),Triv.d _ _⟩
   ·simp at h
  ·simp at h
 ·rename_i a b
  have hx:=hx.d_inv
  have hy:=hy.d_inv
  split at h
  ·split at h
   ·rename_i ks hc
    split at h
    ·simp at h;subst h
     have:=QfR (P:=P) hk hx hy hc p q false
     exact⟨_,by simpa using this,.d _ _ (.bool _),Triv.d _ _⟩
    ·simp at h;subst h
     have:=QfR (P:=P) hk hx hy hc p q true
     exact⟨_,by simpa using this,.d _ _ (.bool _),Triv.d _ _⟩
    ·simp at h
   ·simp at h
  ·simp at h
 ·split at h
  ·simp only[Option.map_eq_some_iff]at h
   obtain⟨b,hb,rfl⟩:=h
   exact rest hb (.inl ⟨rfl,rfl⟩)
  ·simp only[Option.map_eq_some_iff]at h
   obtain⟨b,hb,rfl⟩:=h
   exact rest hb (.inr ⟨rfl,rfl⟩)
  ·simp at h
end ops
end Go.Abs
namespace Go.Abs
open Go.RowKit
variable [Tab]
section ops
variable {P:Program} {g:Gh} {H:Qab} {w:World} {cons:List Nat}
theorem op_un{op:UnOp}{x:AV}{v:Value}(hx:VR g w x v){a:AV}(h:unV op x=some a):
  ∃r,(Op.unary op v).run P w= .ok r w∧VR g w a r∧Triv a r:=by
 unfold unV at h
 split at h
 ·have hx:=hx.d_inv
  cases hx
  simp at h;subst h
  exact⟨_,by simp[Op.unary,Op.intArith],.d _ _ (.int _ _),Triv.d _ _⟩
 ·have hx:=hx.d_inv
  cases hx
  simp at h;subst h
  exact⟨_,by simp[Op.unary,Op.intBits],.d _ _ (.int _ _),Triv.d _ _⟩
 ·have hx:=hx.d_inv
  cases hx
  simp at h;subst h
  exact⟨_,by simp[Op.unary],.d _ _ (.bool _),Triv.d _ _⟩
 ·simp at h
theorem op_toInt{src dst:TypeId}{k k':IntKind}(hs:P.underlying src=some (.int k'))(hd:P.underlying dst=some (.int k))(j:IntKind)(n:Int):
  (convert src dst (.int j n)).run P w= .ok (.int k (k.wrap n)) w:=by
 simp[convert,run_underlying hs,run_underlying hd,Conv.intToInt]
theorem op_same{src dst:TypeId}(hs:P.underlying src=some .string)(hd:P.underlying dst=some .string)(s:ByteArray):
  (convert src dst (.string s)).run P w= .ok (.string s) w:=by
 simp[convert,run_underlying hs,run_underlying hd]
theorem QmE{src dst:TypeId}{k':IntKind}(hs:P.underlying src=some (.int k'))(hd:P.underlying dst=some .string)(j:IntKind)(n:Int):
  (convert src dst (.int j n)).run P w= .ok (.string (Utf8.encode n)) w:=by
 simp[convert,run_underlying hs,run_underlying hd,Conv.intToString]
theorem cell?_freeze(w:World)(a b:Addr)(n:Nat):(w.freeze a n).cell? b=w.cell? b:=by
 unfold World.freeze
 split
 ·rfl
 ·simp only[World.cell?,Array.getElem?_modify]
  by_cases h:a.block=b.block
  ·simp only[h,if_true]
   cases hb:w.heap[b.block]? with
   |none=>simp
   |some o=>cases o<;>simp
  ·simp[h]
theorem Qf4(w:World)(a:Addr)(n b:Nat)(h:b≠a.block):(w.freeze a n).heap[b]? =w.heap[b]? :=by
 unfold World.freeze
 split
 ·rfl
 ·simp only[Array.getElem?_modify]
  rw[if_neg (fun e=>h e.symm)]
theorem Qga(w:World)(a:Addr)(n:Nat):(w.freeze a n).os=w.os∧(w.freeze a n).tape=w.tape∧(w.freeze a n).output=w.output∧(w.freeze a n).heap.size=w.heap.size:=by
 unfold World.freeze
 split
 ·exact⟨rfl,rfl,rfl,rfl⟩
 ·exact⟨rfl,rfl,rfl,by simp⟩
theorem Qjx(hH:HeapOK g H w){b:Nat}(hb:g.own b= .mine)(a:Addr)(ha:a.block=b)(n:Nat):
  WF g w g (w.freeze a n)∧HeapOK g H (w.freeze a n)∧∀loc a' v,loc≠ .mine→FOK g w loc a' v→FOK g (w.freeze a n) loc a' v:=by
 obtain⟨s1,s2,s3,s4⟩:=Qga w a n
 have hne:∀x,g.own x≠ .mine→(w.freeze a n).heap[x]? =w.heap[x]? :=fun x hx=>Qf4 w a n x (by rw[ha];intro e;rw[e]at hx;exact hx hb)
 have hw:WF g w g (w.freeze a n):= {
  os:=s1,tape:=s2,output:=s3,size:=Nat.le_of_eq s4.symm
  idle:=fun x _ ho=>⟨hne x (by rcases ho with h|h<;>rw[h]<;>simp),rfl,rfl⟩
  stays:=fun x i hi=>⟨hi,cell?_freeze _ _ _ _⟩
  n:=Nat.le_refl _,rho:=fun _ _=>rfl,out:=fun _ h=>h,mine:=fun _ h=>h }
 have hk:∀loc a' v,loc≠ .mine→FOK g w loc a' v→FOK g (w.freeze a n) loc a' v:=fun loc a' v hl h=>
  h.keep fun x hx=>⟨hx,rfl,fun cs e fr hh hz=>⟨cs,fr,by rw[hne x (by rw[hx];exact hl)];exact hh,rfl,hz⟩⟩
 refine⟨hw,⟨hH.n,hH.own,fun r o ho=> ?_,fun x hx=>hH.new x (by rw[←s4];exact hx),fun n cs hn=>hw.vr (hH.glob n cs hn)⟩,hk⟩
 have hr:r<g.n:=by rw[hH.n];exact(List.getElem?_eq_some_iff.1 ho).1
 exact(hH.obj r o ho).keep hw hr (fun hd=>hne _ (by rw[(hH.own r hr (Qck ho hd)).1];simp)) (fun j a v=>hk _ _ _ (by simp))
theorem QmB(hH:HeapOK g H w){t e:TypeId}(hd:P.underlying t=some (.slice e))(he:P.underlying e=some (.int .u8)){xs:List D}{v:Value}(hv:VR g w (.lit xs) v):
  ∃w',(convert t t v).run P w= .ok v w'∧OpOK g w cons g H w' (.d (.slice xs)) v:=by
 cases hv with
 |lit _ b n c h ho=>
  have hrun:(convert t t (.slice (some ⟨b,0,none⟩) n c)).run P w=(do markStringish ⟨b,0,none⟩;pure (.slice (some ⟨b,0,none⟩) n c):Sem Value).run P w:=by
   simp[convert,run_underlying hd,run_underlying he]
  rw[hrun]
  simp only[markStringish,Sem.run_bind,run_shape,Result.andThen_ok]
  cases hs:w.shape? b with
  |none=>exact⟨w,by simp,.same hH (.d _ _ h) (Triv.d _ _)⟩
  |some p=>
   obtain⟨hw,hh,hk⟩:=Qjx hH ho ⟨b,p.2,none⟩ rfl 1
   exact⟨_,by simp,hw,hh,.d _ _ (hw.dr h),FOK.ne (by simp),fun i x u _ hf=>hk _ _ _ (by simp) hf⟩
theorem QcN(g:Gh)(w:World):WF g w g w.drew:=
 ⟨rfl,rfl,rfl,Nat.le_refl _,fun _ _ _=>⟨rfl,rfl,rfl⟩,fun _ _ h=>⟨h,rfl⟩,Nat.le_refl _,fun _ _=>rfl,fun _ h=>h,fun _ h=>h,fun _ _=>rfl⟩
theorem Qfn{loc:Own}{a:AV}{v:Value}(h:FOK g w loc a v):FOK g w.drew loc a v:=
 h.keep fun _ hb=>⟨hb,rfl,fun cs _ fr hh hz=>⟨cs,fr,hh,rfl,hz⟩⟩
theorem Qdg(h:HeapOK g H w):HeapOK g H w.drew:=
 ⟨h.n,h.own,fun r o ho=>(h.obj r o ho).keep (QcN g w) (by rw[h.n];exact(List.getElem?_eq_some_iff.1 ho).1) (fun _=>rfl) (fun _ _ _=>Qfn),h.new,fun n cs hn=>(QcN g w).vr (h.glob n cs hn)⟩
theorem Qf8(hH:HeapOK g H w){vs:Array Value}{e:TypeId}{fr:Nat×Nat}{xs:List D}{sz cap:Nat}(hu:∀x∈xs,x.cells.length=sz)(hf:∀x∈xs,∀c∈x.cells,c.isCell=true)
  (hcap:xs.length≤cap)(hsize:xs.length*sz≤vs.size)(hd:∀i j x c,xs[i]? =some x→x.cells[j]? =some c→∃v,vs[i*sz+j]? =some v∧DR g.bd w c v)(o:Own)(ho:o≠ .out):
  DR (g.fresh w.heap.size o (xs.length*sz)).bd (w.alloc (.cells vs e fr)) (.slice xs) (.slice (some ⟨w.heap.size,0,none⟩) xs.length cap):=by
 have hw:=Qdo hH (.cells vs e fr) o ho (xs.length*sz)
 refine .slice xs _ 0 _ cap sz (fun k=>vs.getD k undef) rfl hcap hu hf (fun k hk=>⟨by simp[Gh.fresh];exact hk, ?_⟩) (fun i j x c hx hc=> ?_)
 ·have:k<vs.size:=by omega
  unfold QaL
  rw[Qax (QaF w (.cells vs e fr))]
  simp[Array.getD,this]
 ·obtain⟨v,hv,hdv⟩:=hd i j x c hx hc
  have:=(Array.getElem?_eq_some_iff.1 hv)
  obtain⟨h1,h2⟩:=this
  have:vs.getD (i*sz+j) undef=v:=by simp[Array.getD,h1,h2]
  show DR _ _ _ (vs.getD (i*sz+j) undef)
  rw[this]
  exact hw.dr hdv
theorem Qgo(l:List UInt8):∀(i j:Nat) (x c:D),(l.map Qai)[i]? =some x→x.cells[j]? =some c→j=0∧∃b,l[i]? =some b∧c=Qai b:=by
 intro i j x c hx hc
 simp only[List.getElem?_map,Option.map_eq_some_iff]at hx
 obtain⟨b,hb,rfl⟩:=hx
 cases j with
 |zero=>simp[Qai,D.cells]at hc;exact⟨rfl,b,hb,by rw[←hc];rfl⟩
 |succ j=>simp[Qai,D.cells]at hc
theorem Qld(hH:HeapOK g H w){src dst e:TypeId}(hs:P.underlying src=some .string)(hd:P.underlying dst=some (.slice e))(he:P.underlying e=some (.int .u8)){l:List UInt8}{v:Value}
  (hv:VR g w (.d (.str l)) v):
  ∃u w' g',(convert src dst v).run P w= .ok u w'∧OpOK g w cons g' H w' (toB l) u:=by
 obtain⟨s,rfl,rfl⟩:=QdF hv
 have hrun:(convert src dst (.string s)).run P w=(Conv.stringToBytes e s).run P w:=by
  simp[convert,run_underlying hs,run_underlying hd,run_underlying he]
 rw[hrun]
 simp only[Conv.stringToBytes,Sem.run_bind,run_choose,newRow,run_newObj]
 have hnf:(Question.appendCap s.size 0 e).forced=false:=rfl
 simp only[hnf,Bool.false_eq_true,if_false,Result.andThen_ok]
 generalize hcap:(Question.appendCap s.size 0 e).cut (w.tape w.drawn (Question.appendCap s.size 0 e))=cap
 have hle:s.size≤cap:=by rw[←hcap];exact Nat.le_add_right _ _
 generalize hvs:(Array.map (fun b:UInt8=>Value.int .u8 b.toNat) s.data++Array.replicate (cap-s.size) (Value.int .u8 0))=vs
 have hwd:HeapOK g H w.drew:=Qdg hH
 have hszl:vs.size=cap:=by rw[←hvs];simp;omega
 have hrow:=Qf8 hwd (vs:=vs) (e:=e) (fr:=(vs.size,vs.size+1)) (xs:=s.data.toList.map Qai) (sz:=1) (cap:=cap)
  (fun x hx=>by obtain⟨b,_,rfl⟩:=List.mem_map.1 hx;rfl) (fun x hx c hc=>by obtain⟨b,_,rfl⟩:=List.mem_map.1 hx;simp[Qai,D.cells]at hc;subst hc;rfl)
  (by simpa using hle) (by rw[←hvs];simp) (fun i j x c hx hc=>by
    obtain⟨rfl,b,hb,rfl⟩:=Qgo _ i j x c hx hc
    have hi:=(List.getElem?_eq_some_iff.1 hb).1
    simp at hi
    refine⟨.int .u8 b.toNat, ?_,.int _ _⟩
    rw[←hvs,Nat.mul_one,Nat.add_zero,Array.getElem?_append_left (by simpa using hi)]
    rw[Array.getElem?_toList]at hb
    simp[hb]) .res (by simp)
 have hw:=Qdo hwd (.cells vs e (vs.size,vs.size+1)) .res (by simp) ((s.data.toList.map Qai).length*1)
 have hh:=QeC hwd (.cells vs e (vs.size,vs.size+1)) .res (by simp) ((s.data.toList.map Qai).length*1)
 have hwd':=QcN g w
 have hshape:(w.drew.alloc (.cells vs e (0,0))).shape? w.heap.size=some (e,vs.size):=by
  simp only[World.shape?]
  have:=QaF w.drew (.cells vs e (0,0))
  rw[World.size_drew]at this
  rw[this]
 have hfr:(w.drew.alloc (.cells vs e (0,0))).freeze ⟨w.heap.size,vs.size,none⟩ 1=w.drew.alloc (.cells vs e (vs.size,vs.size+1)):=by
  unfold World.freeze World.alloc World.drew
  simp
  apply Array.ext_getElem?
  intro i
  rw[Array.getElem?_modify]
  by_cases hi:w.heap.size=i
  ·subst hi;simp
  ·rw[if_neg hi,Array.getElem?_push,Array.getElem?_push,if_neg (Ne.symm hi),if_neg (Ne.symm hi)]
 refine⟨.slice (some ⟨w.heap.size,0,none⟩) s.size cap,w.drew.alloc (.cells vs e (vs.size,vs.size+1)),_, ?_,hwd'.trans hw,hh, ?_, ?_, ?_⟩
 ·have e1:({ heap:=w.heap.push (.cells vs e),tape:=w.tape,drawn:=w.drawn+1,os:=w.os,output:=w.output }:World)=w.drew.alloc (.cells vs e (0,0)):=rfl
  rw[e1,←hfr]
  simp only[markStringish,Sem.run_bind,run_shape,Result.andThen_ok,Sem.run_pure,hshape,run_freeze]
 ·have h2:DR (g.fresh w.heap.size .res ((s.data.toList.map Qai).length*1)).bd (w.drew.alloc (.cells vs e (vs.size,vs.size+1))) (.slice (s.data.toList.map Qai)) (.slice (some ⟨w.heap.size,0,none⟩) s.size cap):=by simpa using hrow
  cases hl:s.data.toList with
  |nil=>rw[hl]at h2;exact .d _ _ h2
  |cons c t=>rw[hl]at h2;exact .fsl _ _ h2
 ·intro xs hx
  cases hl:s.data.toList with
  |nil=>rw[hl]at hx;cases hx
  |cons c t=>
   have hxs:xs=s.data.toList.map Qai:=by rw[hl]at hx⊢;injection hx with hx;rw[←hx];rfl
   have hn:s.size=xs.length:=by rw[hxs];simp
   refine .inr ⟨w.heap.size,0,cap,1,by rw[hn],by rw[hxs,hl];simp,fun x hx=>by rw[hxs]at hx;obtain⟨b,_,rfl⟩:=List.mem_map.1 hx;rfl,by simp[Gh.fresh],by rw[hxs];simp only[Gh.fresh,if_true,Nat.zero_add];rw[if_pos (by simp),hl],vs,e,(vs.size,vs.size+1), ?_,by omega,.inr (Nat.le_refl _)⟩
   have:=QaF w.drew (.cells vs e (vs.size,vs.size+1))
   simpa using this
 ·intro i x u _ hf
  exact Qdt hwd _ _ _ (by simp) (Qfn hf)
end ops
end Go.Abs
namespace Go.Abs
open Go.RowKit
variable [Tab]
section ops
variable {P:Program} {g:Gh} {H:Qab} {w:World} {cons:List Nat}
theorem QiV{xs:List D}{s:List UInt8}(h:bytesOf xs=some s):∃ns:List Int,xs=ns.map (fun n=>D.int .u8 n)∧s=ns.map (fun n=>UInt8.ofNat n.toNat):=by
 induction xs generalizing s with
 |nil=>simp[bytesOf]at h;subst h;exact⟨[],rfl,rfl⟩
 |cons x xs ih=>
  unfold bytesOf at h
  split at h
  ·rename_i e;cases e
  ·rename_i n ys e
   simp at e;obtain⟨rfl,rfl⟩:=e
   split at h
   ·rename_i bs hb
    simp at h;subst h
    obtain⟨ns,h1,h2⟩:=ih hb
    exact⟨n::ns,by simp[h1],by simp[h2]⟩
   ·simp at h
  ·simp at h
theorem QiZ{xs:List AV}{s:List UInt8}(h:AV.bytes xs=some s):∃ns:List Int,xs=ns.map (fun n=>AV.d (.int .u8 n))∧s=ns.map (fun n=>UInt8.ofNat n.toNat):=by
 induction xs generalizing s with
 |nil=>simp[AV.bytes]at h;subst h;exact⟨[],rfl,rfl⟩
 |cons x xs ih=>
  unfold AV.bytes at h
  split at h
  ·rename_i e;cases e
  ·rename_i n ys e
   simp at e;obtain⟨rfl,rfl⟩:=e
   split at h
   ·rename_i bs hb
    simp at h;subst h
    obtain⟨ns,h1,h2⟩:=ih hb
    exact⟨n::ns,by simp[h1],by simp[h2]⟩
   ·simp at h
  ·simp at h
theorem Qg0{a:Addr}{ns:List Int}{len:Nat}(hl:ns.length=len)(h:∀(j:Nat) n,ns[j]? =some n→w.cell? (a.add j)=some (.int .u8 n)):
  (loadCells a len).run P w= .ok (ns.map (Value.int .u8)).toArray w:=by
 have:=run_loadCells_list (P:=P) w a (ns.map (Value.int .u8)) (fun j v hj=>by
  simp only[List.getElem?_map,Option.map_eq_some_iff]at hj
  obtain⟨n,hn,rfl⟩:=hj
  exact h j n hn)
 simpa[hl]using this
theorem QiL(ns:List Int):(ns.foldl (fun r n=>r.push (UInt8.ofNat n.toNat)) ByteArray.empty).data.toList=ns.map fun n=>UInt8.ofNat n.toNat:=by
 have key:∀(ns:List Int) (r:ByteArray),(ns.foldl (fun r n=>r.push (UInt8.ofNat n.toNat)) r).data.toList=r.data.toList++ns.map fun n=>UInt8.ofNat n.toNat:=by
  intro ns
  induction ns with
  |nil=>intro r;simp
  |cons n ns ih=>intro r;rw[List.foldl_cons,ih];simp[ByteArray.push]
 simpa using key ns .empty
theorem Qkp{src dst e:TypeId}(hs:P.underlying src=some (.slice e))(hd:P.underlying dst=some .string)(he:P.underlying e=some (.int .u8)){xs:List D}{v:Value}
  (hv:DR g.bd w (.slice xs) v){s:List UInt8}(hb:bytesOf xs=some s):
  ∃u,(convert src dst v).run P w= .ok u w∧VR g w (.d (.str s)) u:=by
 obtain⟨ns,rfl,rfl⟩:=QiV hb
 have hrun:∀a n c,(convert src dst (.slice a n c)).run P w=(Conv.bytesToString (.slice a n c)).run P w:=by
  intro a n c
  simp[convert,run_underlying hs,run_underlying hd,run_underlying he]
 generalize hxs:List.map (fun n=>D.int IntKind.u8 n) ns=xs at hv
 cases hv with
 |slnil=>
  have:ns= []:=by simpa using hxs
  subst this
  exact⟨.string .empty,by rw[hrun];simp[Conv.bytesToString],.d _ _ (.str _ _ rfl)⟩
 |sle a cap=>
  have:ns= []:=by simpa using hxs
  subst this
  exact⟨.string .empty,by rw[hrun];simp[Conv.bytesToString,loadCells,loadCellsFrom],.d _ _ (.str _ _ rfl)⟩
 |slice _ b off len cap sz vs hlen hcap hu hf hc h=>
  have hlen':ns.length=len:=by rw[hlen,←hxs];simp
  have hcell:∀(j:Nat) n,ns[j]? =some n→w.cell? ((⟨b,off,none⟩:Addr).add j)=some (.int .u8 n):=by
   intro j n hj
   have hjl:=(List.getElem?_eq_some_iff.1 hj).1
   have hx:xs[j]? =some (.int .u8 n):=by rw[←hxs];simp[hj]
   have hsz:sz=1:=(hu _ (List.mem_of_getElem? hx)).symm
   subst hsz
   have:=(hc j (by rw[←hlen];omega)).2
   have hh:=h j 0 _ (.int .u8 n) hx rfl
   simp only[Nat.mul_one,Nat.add_zero]at hh
   rw[add_lit]
   unfold QaL at this
   rw[this]
   generalize vs j=u at hh
   cases hh with
   |int=>rfl
  have:=run_bytesToString (P:=P) w ⟨b,off,none⟩ len cap ns (Qg0 hlen' hcell)
  exact⟨_,by rw[hrun];exact this,.d _ _ (.str _ _ (QiL ns))⟩
theorem Qin(hH:HeapOK g H w){src dst e:TypeId}(hs:P.underlying src=some (.slice e))(hd:P.underlying dst=some .string)(he:P.underlying e=some (.int .u8)){r off len cap:Nat}{v:Value}
  (hv:VR g w (.oslice r off len cap 1) v){cs:List AV}(hr:H[r]? =some (.cells cs))(hle:off+len≤cs.length){s:List UInt8}(hb:AV.bytes ((cs.drop off).take len)=some s):
  ∃u,(convert src dst v).run P w= .ok u w∧VR g w (.d (.str s)) u:=by
 obtain⟨ns,hns,rfl⟩:=QiZ hb
 obtain⟨hrn,vs,el,fr,h1,h2,h3,h4,h5⟩:=hH.get hr
 cases hv with
 |osl _ _ _ _ cap' _ hrn' hcap hcap' hroom=>
  have hrun:(convert src dst (.slice (some ⟨g.rho r,off,none⟩) len cap')).run P w=(Conv.bytesToString (.slice (some ⟨g.rho r,off,none⟩) len cap')).run P w:=by
   simp[convert,run_underlying hs,run_underlying hd,run_underlying he]
  have hlen':ns.length=len:=by have:=congrArg List.length hns;simp at this;omega
  have hcell:∀(j:Nat) n,ns[j]? =some n→w.cell? ((⟨g.rho r,off,none⟩:Addr).add j)=some (.int .u8 n):=by
   intro j n hj
   have hjl:=(List.getElem?_eq_some_iff.1 hj).1
   have hc:cs[off+j]? =some (.d (.int .u8 n)):=by
    have:=congrArg (·[j]?) hns
    simp only[List.getElem?_take,List.getElem?_drop,List.getElem?_map,hj]at this
    rw[if_pos (by omega)]at this
    simpa using this
   obtain⟨u,hu⟩:∃u,vs[off+j]? =some u:=⟨_,Array.getElem?_eq_getElem (by omega)⟩
   have:=(h5 _ _ _ hc hu).1.d_inv
   rw[add_lit,Qax h1,hu]
   cases this with
   |int=>rfl
  rw[hrun]
  have:=run_bytesToString (P:=P) w ⟨g.rho r,off,none⟩ len cap' ns (Qg0 hlen' hcell)
  exact⟨_,this,.d _ _ (.str _ _ (QiL ns))⟩
theorem QcJ{isSlice:Bool}{len cap:Nat}{lo hi mx:Option Value}{l h m:Int}{kl kh km:IntKind}
  (hl:match lo with|none=>l=0|some v=>v= .int kl l)(hh:match hi with|none=>h=len|some v=>v= .int kh h)(hm:match mx with|none=>m=cap|some v=>v= .int km m)
  (hmx:mx.isSome=true→hi.isSome=true)(h0:0≤l)(h1:l≤h)(h2:h≤m)(h3:m≤cap):
  (Instr.sliceBounds isSlice len cap lo hi mx).run P w= .ok (l.toNat,h.toNat,m.toNat) w:=by
 have hb:∀(k:IntKind) (i:Int) (y:Nat) (c:BoundsCode),0≤i→i≤y→(Instr.sliceBound (.int k i) y c).run P w= .ok i.toNat w:=by
  intro k i y c a b
  simp[Instr.sliceBound,asIntOf,a,b]
 cases mx with
 |none=>
  simp only at hm
  subst hm
  cases hi with
  |none=>
   simp only at hh;subst hh
   cases lo with
   |none=>simp only at hl;subst hl;simp[Instr.sliceBounds]
   |some v=>simp only at hl;subst hl;simp[Instr.sliceBounds,hb _ l _ _ h0 h1]
  |some v=>
   simp only at hh;subst hh
   have e:((h.toNat:Nat):Int)=h:=Int.toNat_of_nonneg (by omega)
   cases lo with
   |none=>simp only at hl;subst hl;simp[Instr.sliceBounds,hb _ h cap _ (by omega) h2]
   |some u=>simp only at hl;subst hl;simp[Instr.sliceBounds,hb _ h cap _ (by omega) h2,hb _ l h.toNat _ h0 (by omega)]
 |some x=>
  simp only at hm;subst hm
  have em:((m.toNat:Nat):Int)=m:=Int.toNat_of_nonneg (by omega)
  cases hi with
  |none=>simp at hmx
  |some v=>
   simp only at hh;subst hh
   have e:((h.toNat:Nat):Int)=h:=Int.toNat_of_nonneg (by omega)
   cases lo with
   |none=>simp only at hl;subst hl;simp[Instr.sliceBounds,hb _ m cap _ (by omega) h3,hb _ h m.toNat _ (by omega) (by omega)]
   |some u=>simp only at hl;subst hl;simp[Instr.sliceBounds,hb _ m cap _ (by omega) h3,hb _ h m.toNat _ (by omega) (by omega),hb _ l h.toNat _ h0 (by omega)]
theorem op_slStr{t:TypeId}(hd:P.underlying t=some .string){l:List UInt8}{v:Value}(hv:VR g w (.d (.str l)) v){lo hi:Option Value}{a b:Int}{ka kb:IntKind}
  (hl:match lo with|none=>a=0|some v=>v= .int ka a)(hh:match hi with|none=>b=l.length|some v=>v= .int kb b)(h0:0≤a)(h1:a≤b)(h2:b≤l.length):
  ∃u,(Instr.sliceAt t v lo hi none).run P w= .ok u w∧VR g w (.d (.str ((l.take b.toNat).drop a.toNat))) u:=by
 obtain⟨s,rfl,rfl⟩:=QdF hv
 have hsz:s.data.toList.length=s.size:=by simp
 rw[hsz]at h2 hh
 have hb:=QcJ (P:=P) (w:=w) (isSlice:=false) (len:=s.size) (cap:=s.size) (mx:=none) (m:=s.size) (km:=ka) hl hh rfl (by simp) h0 h1 h2 (Int.le_refl _)
 refine⟨.string (s.extract a.toNat b.toNat), ?_,.d _ _ (.str _ _ ?_)⟩
 ·simp[Instr.sliceAt,Instr.slice,run_underlying hd,hb]
 ·rw[ByteArray.data_extract,Array.toList_extract,List.drop_take]
theorem Qbd{xs:List D}{sz s:Nat}(hu:∀x∈xs,x.cells.length=sz)(h:QaS s xs=true){x:D}(hx:x∈xs):sz=s:=by
 cases xs with
 |nil=>cases hx
 |cons y ys=>simp[QaS]at h;rw[←hu y (by simp),h]
theorem op_sl{t e:TypeId}(hd:P.underlying t=some (.slice e)){s:Nat}(hs:QaX P e=some s){x:AV}{xs:List D}{v:Value}(hv:VR g w x v)(hx:x.elems=some xs){lo hi mx:Option Value}{a b:Int}{ka kb:IntKind}
  (hl:match lo with|none=>a=0|some v=>v= .int ka a)(hh:match hi with|none=>b=xs.length|some v=>v= .int kb b)(h0:0≤a)(h1:a≤b)(h2:b≤xs.length)
  (hm:mx=none∨∃km,mx=some (.int km b))(hmx:mx.isSome=true→hi.isSome=true)(hall:QaS s xs=true):
  ∃u,(Instr.sliceAt t v lo hi mx).run P w= .ok u w∧VR g w (if mx.isSome then .fslice ((xs.take b.toNat).drop a.toNat)else .d (.slice ((xs.take b.toNat).drop a.toNat))) u∧
   Triv (if mx.isSome then .fslice ((xs.take b.toNat).drop a.toNat)else .d (.slice ((xs.take b.toNat).drop a.toNat))) u:=by
 obtain⟨i,hi',rfl⟩:=Qan hs
 have hlen:((xs.take b.toNat).drop a.toNat).length=b.toNat-a.toNat:=by simp;omega
 have key:∀(base:Option Addr) (len cap:Nat),v= .slice base len cap→len=xs.length→len≤cap→
   ∃u m:Nat,(m=cap∨m=b.toNat)∧(Instr.sliceAt t v lo hi mx).run P w= .ok (.slice (if m=a.toNat then base else base.map (·.add (a.toNat*i.size))) (b.toNat-a.toNat) (m-a.toNat)) w∧(mx.isSome=true→m=b.toNat)∧b.toNat≤m:=by
  intro base len cap e1 e2 e3
  subst e1
  rcases hm with rfl|⟨km,rfl⟩
  ·have hb:=QcJ (P:=P) (w:=w) (isSlice:=true) (len:=len) (cap:=cap) (mx:=none) (m:=cap) (km:=ka) hl (by rw[e2];exact hh) rfl (by simp) h0 h1 (by omega) (Int.le_refl _)
   exact⟨0,cap,.inl rfl,by simp[Instr.sliceAt,Instr.slice,run_underlying hd,hb,Qaj hi'],by simp,by omega⟩
  ·have hb:=QcJ (P:=P) (w:=w) (isSlice:=true) (len:=len) (cap:=cap) (mx:=some (.int km b)) (m:=b) (km:=km) hl (by rw[e2];exact hh) rfl hmx h0 h1 (Int.le_refl _) (by omega)
   exact⟨0,b.toNat,.inr rfl,by simp[Instr.sliceAt,Instr.slice,run_underlying hd,hb,Qaj hi'],by simp,Nat.le_refl _⟩
 have wrap:∀u m,VR g w (.d (.slice ((xs.take b.toNat).drop a.toNat))) u→(∃p n,u= .slice p n (m-a.toNat)∧n=b.toNat-a.toNat)→(mx.isSome=true→m=b.toNat)→
   VR g w (if mx.isSome then .fslice ((xs.take b.toNat).drop a.toNat)else .d (.slice ((xs.take b.toNat).drop a.toNat))) u∧Triv (if mx.isSome then .fslice ((xs.take b.toNat).drop a.toNat)else .d (.slice ((xs.take b.toNat).drop a.toNat))) u:=by
  intro u m h ⟨p,n,e1,e2⟩ hmm
  cases hms:mx.isSome with
  |false=>exact⟨h,Triv.d _ _⟩
  |true=>
   refine⟨.fsl _ _ h.d_inv,fun ys _=>⟨p,n, ?_⟩⟩
   rw[e1,hmm hms,e2]
 cases QcE hv hx with
 |slnil=>
  simp at h2
  obtain⟨_,m,hm1,hr,hm2,hm3⟩:=key none 0 0 rfl rfl (Nat.le_refl _)
  have hb0:b.toNat=0:=by omega
  have ha0:a.toNat=0:=by omega
  have hm0:m=0:=by rcases hm1 with h|h<;>omega
  refine⟨_,hr,wrap _ m ?_ ⟨_,_,rfl,rfl⟩ hm2⟩
  simp[ha0,hb0,hm0]
  exact .d _ _ .slnil
 |sle ad cap=>
  simp at h2
  obtain⟨_,m,hm1,hr,hm2,hm3⟩:=key (some ad) 0 cap rfl rfl (Nat.zero_le _)
  have hb0:b.toNat=0:=by omega
  have ha0:a.toNat=0:=by omega
  refine⟨_,hr,wrap _ m ?_ ⟨_,_,rfl,rfl⟩ hm2⟩
  have e1:(if m=a.toNat then some ad else(some ad).map (·.add (a.toNat*i.size)))=some ad:=by
   rw[ha0];simp[Addr.add]
  have e2:b.toNat-a.toNat=0:=by omega
  rw[e1,e2]
  simp
  exact .d _ _ (.sle _ _)
 |slice _ bl off len cap sz vs hlen' hcap hu hf hc h=>
  obtain⟨_,m,hm1,hr,hm2,hm3⟩:=key (some ⟨bl,off,none⟩) len cap rfl hlen' hcap
  refine⟨_,hr,wrap _ m ?_ ⟨_,_,rfl,rfl⟩ hm2⟩
  have hmem:∀x∈(xs.take b.toNat).drop a.toNat,x∈xs:=fun x hx=>List.mem_of_mem_take (List.mem_of_mem_drop hx)
  have hidx:∀k x,((xs.take b.toNat).drop a.toNat)[k]? =some x→xs[a.toNat+k]? =some x:=by
   intro k x hk
   rw[List.getElem?_drop,List.getElem?_take]at hk
   split at hk
   ·exact hk
   ·simp at hk
  by_cases he:(xs.take b.toNat).drop a.toNat= []
  ·rw[he]
   have hz:b.toNat-a.toNat=0:=by rw[←hlen,he];rfl
   rw[hz]
   have e0:∀o c,VR g w (.d (.slice [])) (.slice (some ⟨bl,o,none⟩) 0 c):=fun o c=>
    .d _ _ (.slice [] bl o 0 c sz vs rfl (Nat.zero_le _) (by simp) (by simp) (by simp) (by simp))
   split
   ·exact e0 _ _
   ·simp only[Option.map_some,add_lit]
    exact e0 _ _
  ·have hpos:a.toNat<b.toNat:=by
    rcases Nat.lt_or_ge a.toNat b.toNat with h|h
    ·exact h
    ·exact absurd (List.length_eq_zero_iff.1 (by rw[hlen];omega)) he
   obtain⟨x0,hx0⟩:∃x0,x0∈(xs.take b.toNat).drop a.toNat:=List.exists_mem_of_ne_nil _ he
   rw[if_neg (by omega)]
   simp only[Option.map_some,add_lit]
   have hcells:∀k,k<((xs.take b.toNat).drop a.toNat).length*sz→off+a.toNat*sz+k<g.bd bl∧QaL w bl (off+a.toNat*sz+k)=some (vs (a.toNat*sz+k)):=by
    intro k hk
    have hb':b.toNat≤xs.length:=by omega
    have:a.toNat*sz+k<xs.length*sz:=by
     rw[hlen]at hk
     calc a.toNat*sz+k<a.toNat*sz+(b.toNat-a.toNat)*sz:=by omega
      _=b.toNat*sz:=by rw[←Nat.add_mul];congr 1;omega
      _≤xs.length*sz:=Nat.mul_le_mul_right _ hb'
    have:=hc _ this
    rwa [←Nat.add_assoc]at this
   have hs':sz=i.size:=by
    exact Qbd hu hall (hmem x0 hx0)
   subst hs'
   exact .d _ _ (.slice _ bl _ _ _ i.size (fun k=>vs (a.toNat*i.size+k)) hlen.symm (by omega) (fun x hx=>hu x (hmem x hx)) (fun x hx=>hf x (hmem x hx)) hcells (fun k j x c hx hc'=>by
    have:=h _ j x c (hidx k x hx) hc'
    rwa [Nat.add_mul,Nat.add_assoc]at this))
theorem QmA{t e:TypeId}(hd:P.underlying t=some (.slice e)){s:Nat}(hs:QaX P e=some s){r off len cap sz:Nat}{v:Value}(hv:VR g w (.oslice r off len cap sz) v)(hsz:sz=s){lo hi mx:Option Value}{a b m:Int}{ka kb km:IntKind}
  (hl:match lo with|none=>a=0|some v=>v= .int ka a)(hh:match hi with|none=>b=len|some v=>v= .int kb b)(hm:match mx with|none=>m=cap|some v=>v= .int km m)
  (hmx:mx.isSome=true→hi.isSome=true)(h0:0≤a)(h1:a≤b)(h2:b≤m)(h3:m≤cap):
  ∃u,(Instr.sliceAt t v lo hi mx).run P w= .ok u w∧(∀x,x=(if a=b then(if mx.isSome∧m=a then .fslice []else .d (.slice []))else .oslice r (off+a.toNat*sz) (b-a).toNat (m-a).toNat sz)→VR g w x u∧Triv x u):=by
 subst hsz
 obtain⟨i,hi',rfl⟩:=Qan hs
 cases hv with
 |osl _ _ _ _ cap' _ hr hc hc' hz=>
  obtain⟨m',hm',hm1,hm2,hm3⟩:∃m':Int,(match(generalizing:=false) mx with|none=>m'=cap'|some v=>v= .int km m')∧m≤m'∧m'≤cap'∧(mx.isSome=true→m'=m):=by
   cases mx with
   |none=>exact⟨cap',rfl,by simp only at hm;omega,Int.le_refl _,by simp⟩
   |some v=>exact⟨m,hm,Int.le_refl _,by omega,fun _=>rfl⟩
  have hb:=QcJ (P:=P) (w:=w) (isSlice:=true) (len:=len) (cap:=cap') hl hh hm' hmx h0 h1 (by omega) hm2
  have e1:(b-a).toNat=b.toNat-a.toNat:=by omega
  have e2:(m-a).toNat=m.toNat-a.toNat:=by omega
  refine⟨_,by simp[Instr.sliceAt,Instr.slice,run_underlying hd,hb,Qaj hi'];rfl,fun x hx=> ?_⟩
  subst hx
  by_cases hab:a=b
  ·subst hab
   simp only[if_true,Nat.sub_self]
   by_cases hma:mx.isSome=true∧m=a
   ·rw[if_pos hma]
    have:=hm3 hma.1
    have e3:m'.toNat-a.toNat=0:=by omega
    rw[e3]
    exact⟨.fsl _ _ (by split<;>exact .sle _ _),fun xs _=>⟨_,_,rfl⟩⟩
   ·rw[if_neg hma]
    exact⟨.d _ _ (by split<;>exact .sle _ _),Triv.d _ _⟩
  ·rw[if_neg hab,e1,e2,if_neg (by omega),add_lit]
   refine⟨.osl _ _ _ _ _ _ hr (by omega) (by omega) ?_,fun xs e=>by cases e⟩
   rw[Nat.add_assoc,←Nat.add_mul]
   exact Nat.le_trans (Nat.add_le_add_left (Nat.mul_le_mul_right _ (by omega)) _) hz
theorem op_slArr(hH:HeapOK g H w){t e:TypeId}{n:Nat}(hd:P.underlying t=some (.array n e)){s:Nat}(hs:QaX P e=some s){r off:Nat}{v:Value}(hv:VR g w (.ptr r off) v){lo hi:Option Value}{a b:Int}{ka kb:IntKind}
  (hl:match lo with|none=>a=0|some v=>v= .int ka a)(hh:match hi with|none=>b=n|some v=>v= .int kb b)
  (h0:0≤a)(h1:a≤b)(h2:b≤n)(h3:off+n*s≤QkQ H r):
  ∃u,(Instr.sliceAt t v lo hi none).run P w= .ok u w∧VR g w (.oslice r (if(n:Int)=a then off else off+a.toNat*s) (b-a).toNat (n-a.toNat) s) u:=by
 obtain⟨i,hi',rfl⟩:=Qan hs
 cases hv with
 |ptr _ _ hr=>
  have hb:=QcJ (P:=P) (w:=w) (isSlice:=false) (len:=n) (cap:=n) (mx:=none) (m:=n) (km:=ka) hl hh rfl (by simp) h0 h1 h2 (Int.le_refl _)
  have e1:(b-a).toNat=b.toNat-a.toNat:=by omega
  refine⟨_,by simp[Instr.sliceAt,run_underlying hd,Instr.sureAddr,hb,Qaj hi'];rfl, ?_⟩
  rw[e1]
  have hrm:QkQ H r≤g.rm r:=by
   simp only[QkQ]
   split
   ·rename_i cs hc
    obtain⟨_,vs,_,_,_,q,_⟩:=hH.get hc
    omega
   ·exact Nat.zero_le _
  by_cases hma:(n:Int)=a
  ·rw[if_pos hma,if_pos (by omega)]
   refine .osl _ _ _ _ _ _ hr (by omega) (Nat.le_refl _) ?_
   have:n-a.toNat=0:=by omega
   rw[this];omega
  ·rw[if_neg hma,if_neg (by omega),add_lit]
   refine .osl _ _ _ _ _ _ hr (by omega) (Nat.le_refl _) ?_
   rw[Nat.add_assoc,←Nat.add_mul]
   exact Nat.le_trans (Nat.add_le_add_left (Nat.mul_le_mul_right _ (by omega)) _) (Nat.le_trans h3 hrm)
end ops
end Go.Abs
namespace Go.Abs
open Go.RowKit
variable [Tab]
section ops
variable {P:Program} {g:Gh} {H:Qab} {w:World} {cons:List Nat}
theorem Qfm(hH:HeapOK g H w)(cons:List Nat)(O:Obj)(o:AObj)(ho:OR (g.newObj w.heap.size (Qb9 O)) (w.alloc O) g.n o){a:AV}{v:Value}(ha:a= .ptr H.length 0∧v= .pointer (some ⟨w.heap.size,0,none⟩)∨a= .mapr H.length∧v= .map (some w.heap.size)∨∃l c c' sz,a= .oslice H.length 0 l c sz∧v= .slice (some ⟨w.heap.size,0,none⟩) l c'∧l≤c∧c≤c'∧c'*sz≤Qb9 O):
  OpOK g w cons (g.newObj w.heap.size (Qb9 O)) (H++ [o]) (w.alloc O) a v:=by
 have hw:=Qcu hH O
 have hrho:(g.newObj w.heap.size (Qb9 O)).rho H.length=w.heap.size:=by simp[Gh.newObj,hH.n]
 have hn:H.length<(g.newObj w.heap.size (Qb9 O)).n:=by rw[←hH.n];exact Nat.lt_succ_self _
 refine⟨hw,Qf3 hH _ _ ho, ?_,FOK.ne (by rcases ha with⟨rfl,_⟩|⟨rfl,_⟩|⟨l,c,c',sz,rfl,_⟩<;>simp),fun i x u _ h4=>QdI hH _ (by simp) h4⟩
 rcases ha with⟨rfl,rfl⟩|⟨rfl,rfl⟩|⟨l,c,c',sz,rfl,rfl,hc,hc',hz⟩
 ·have:=VR.ptr (g:=g.newObj w.heap.size (Qb9 O)) (w:=w.alloc O) _ 0 hn
  rwa [hrho]at this
 ·have:=VR.mapr (g:=g.newObj w.heap.size (Qb9 O)) (w:=w.alloc O) _ hn
  rwa [hrho]at this
 ·have:=VR.osl (g:=g.newObj w.heap.size (Qb9 O)) (w:=w.alloc O) _ 0 l c c' sz hn hc hc' (by simp[Gh.newObj,hH.n];exact hz)
  rwa [hrho]at this
theorem Qhr(g:Gh)(w:World)(k:Nat):(g.newObj w.heap.size k).rho g.n=w.heap.size:=by simp[Gh.newObj]
theorem op_mkMap(hH:HeapOK g H w)(t:TypeId)(kk:KK):∃w' g',(Instr.makeMap t none).run P w= .ok (.map (some w.heap.size)) w'∧OpOK g w cons g' (H++ [.map kk []]) w' (.mapr H.length) (.map (some w.heap.size)):=by
 refine⟨_,_, ?_,Qfm hH cons (.map #[] 0) (.map kk []) ⟨#[],0,by rw[Qhr];exact QaF _ _,rfl,fun i k a m h=>by simp at h⟩ (.inr (.inl ⟨rfl,rfl⟩))⟩
 simp[Instr.makeMap]
theorem QmC(hH:HeapOK g H w){t:TypeId}(hd:P.underlying t=some .string){l:List UInt8}{v:Value}(hv:VR g w (.d (.str l)) v):
  ∃u w' g',(Instr.range t v).run P w= .ok u w'∧OpOK g w cons g' (H++ [.siter l 0]) w' (.ptr H.length 0) u:=by
 obtain⟨s,rfl,rfl⟩:=QdF hv
 refine⟨_,_,_, ?_,Qfm hH cons (.stringIter s 0) (.siter s.data.toList 0) ⟨s,by rw[Qhr];exact QaF _ _,rfl⟩ (.inl ⟨rfl,rfl⟩)⟩
 simp[Instr.range,run_underlying hd]
theorem Qcx{r:Nat}{o o':Obj}(h:w.heap[r]? =some o')(hc:∀c e f,o'≠ .cells c e f):(setObj r o).run P w= .ok () { w with heap:=w.heap.setIfInBounds r o }:=by
 cases o'<;>first|(simp only[setObj,Sem.run,h];done)|exact absurd rfl (hc _ _ _)
theorem Qcz{r:Nat}{o:Obj}(h:w.heap[r]? =some o)(hc:∀c e f,o≠ .cells c e f):(getObj r).run P w= .ok o w:=by
 cases o<;>first|(simp only[getObj,Sem.run,h];done)|exact absurd rfl (hc _ _ _)
theorem QcO(r:Nat)(O:Obj):Turned g w { w with heap:=w.heap.setIfInBounds (g.rho r) O } r:=
 ⟨rfl,rfl,rfl,by simp,fun b hb=>by simp[Array.getElem?_setIfInBounds_ne (Ne.symm hb)]⟩
theorem Qju(hH:HeapOK g H w){r:Nat}(hr:r<g.n)(ha:Qco H r){O:Obj}{o:AObj}(ho:OR g { w with heap:=w.heap.setIfInBounds (g.rho r) O } r o){a:AV}{v:Value}(hv:VR g w a v)(ht:Triv a v):
  OpOK g w cons g (H.set r o) { w with heap:=w.heap.setIfInBounds (g.rho r) O } a v:=by
 have tt:=QcO (g:=g) (w:=w) r O
 exact⟨Qbb hH hr ha tt,Qcf hH hr ha tt ho,(Qbb hH hr ha tt).vr hv,FOK.triv ht,fun i x u _ hf=>Qcb hH hr ha tt (by simp) hf⟩
theorem Qle(hH:HeapOK g H w){r:Nat}{s:List UInt8}{pos:Nat}(hr:H[r]? =some (.siter s pos))(ty:TypeId):
  ∃u w',(Instr.next (.pointer (some ⟨g.rho r,0,none⟩)) true ty).run P w= .ok u w'∧
   OpOK g w cons g (if pos<s.length then H.set r (.siter s (pos+(dec s pos).2))else H) w' (if pos<s.length then .tuple [boolD true,intD pos,.d (.int .i32 ((dec s pos).1:Nat))]else .tuple [boolD false]) u:=by
 obtain⟨hrn,s',h1,h2⟩:=hH.get hr
 subst h2
 have hlen:s'.data.toList.length=s'.size:=by simp
 rw[hlen]
 have hdec:dec s'.data.toList pos=Utf8.decode s' pos:=by simp[dec]
 have hget:=Qcz (P:=P) (w:=w) h1 (by simp)
 by_cases hp:pos<s'.size
 ·have hset:=Qcx (P:=P) (w:=w) (o:= .stringIter s' (pos+(Utf8.decode s' pos).2)) h1 (by simp)
  refine⟨.tuple #[.bool true,goInt pos,.int .i32 ((Utf8.decode s' pos).1:Nat)],_,by simp[Instr.next,hget,hp,hset];rfl, ?_⟩
  rw[if_pos hp,if_pos hp,hdec]
  refine Qju hH hrn (Qck hr (by simp)) (O:= .stringIter s' (pos+(Utf8.decode s' pos).2)) (o:= .siter s'.data.toList (pos+(Utf8.decode s' pos).2)) ⟨s', ?_,rfl⟩ (.tuple _ _ rfl ?_ ?_) (fun xs e=>by cases e)
  ·have:g.rho r<w.heap.size:=hH.rho_lt hrn (Qck hr (by simp))
   simp[this]
  ·intro i c v hc hv
   match i with
   |0=>simp at hc hv;subst hc hv;exact .d _ _ (.bool _)
   |1=>simp at hc hv;subst hc hv;exact .d _ _ (.int _ _)
   |2=>simp at hc hv;subst hc hv;exact .d _ _ (.int _ _)
   |i+3=>simp at hc
  ·intro i c v hc hv
   match i with
   |0=>simp at hc;subst hc;exact Triv.d _ _
   |1=>simp at hc;subst hc;exact Triv.d _ _
   |2=>simp at hc;subst hc;exact Triv.d _ _
   |i+3=>simp at hc
 ·refine⟨.tuple #[.bool false],w,by simp[Instr.next,hget,hp], ?_⟩
  rw[if_neg hp,if_neg hp]
  refine .same hH (.tuple _ _ rfl ?_ ?_) (fun xs e=>by cases e)
  ·intro i c v hc hv
   match i with
   |0=>simp at hc hv;subst hc hv;exact .d _ _ (.bool _)
   |i+1=>simp at hc
  ·intro i c v hc hv
   match i with
   |0=>simp at hc;subst hc;exact Triv.d _ _
   |i+1=>simp at hc
theorem Qjy{r:Nat}{kk:KK}{es:List (D×AV)}(hH:HeapOK g H w)(hr:H[r]? =some (.map kk es)):
 r<g.n∧∃ms clk,w.heap[g.rho r]? =some (.map ms clk)∧ms.size=es.length∧
  ∀(i:Nat) k a m,es[i]? =some (k,a)→ms[i]? =some m→DR g.bd w k m.key∧Qcd kk k=true∧VR g w a m.val∧Triv a m.val:=hH.get hr
theorem Qlf(hH:HeapOK g H w){t k e:TypeId}(hd:P.underlying t=some (.map k e)){r:Nat}{kk:KK}{es:List (D×AV)}(hr:H[r]? =some (.map kk es))(ty:TypeId):
  (Builtin.len_ #[t] ty #[.map (some (g.rho r))]).run P w= .ok (.int .i64 es.length) w:=by
 obtain⟨_,ms,clk,h1,h2,_⟩:=Qjy hH hr
 have hget:=Qcz (P:=P) (w:=w) h1 (by simp)
 simp[Builtin.len_,run_underlying hd,hget,goInt,h2]
end ops
end Go.Abs
namespace Go.Abs
open Go.RowKit
variable [Tab]
section ops
variable {P:Program} {g:Gh} {H:Qab} {w:World} {cons:List Nat}
def KD:KK→TypeDesc→Prop
 |.int k,d=>d= .int k
 |.str,d=>d= .string
 |.bool,d=>d= .bool
theorem key_same{kk:KK}{d:TypeDesc}(hd:KD kk d){x y:D}{v u:Value}(hx:DR g.bd w x v)(hy:DR g.bd w y u)
  (kx:Qcd kk x=true)(ky:Qcd kk y=true):Instr.sameNow d v u=some (D.beq x y):=by
 cases kk with
 |int k=>
  cases x<;>simp[Qcd]at kx
  cases y<;>simp[Qcd]at ky
  cases hx;cases hy
  subst kx;subst ky
  simp only[KD]at hd;subst hd
  simp[Instr.sameNow,D.beq]
 |str=>
  cases x<;>simp[Qcd]at kx
  cases y<;>simp[Qcd]at ky
  cases hx;cases hy
  rename_i s1 e1 s2 e2
  simp only[KD]at hd;subst hd
  simp only[Instr.sameNow,D.beq]
  congr 1
  show(s1==s2)=_
  rw[beq_toListBytes,Qef,Qef,e1,e2]
 |bool=>
  cases x<;>simp[Qcd]at kx
  cases y<;>simp[Qcd]at ky
  cases hx;cases hy
  simp only[KD]at hd;subst hd
  simp[Instr.sameNow,D.beq]
def ER(g:Gh)(w:World)(kk:KK)(es:List (D×AV))(ms:List MapEntry):Prop:=
 es.length=ms.length∧∀(i:Nat) k a m,es[i]? =some (k,a)→ms[i]? =some m→DR g.bd w k m.key∧Qcd kk k=true∧VR g w a m.val∧Triv a m.val
theorem ER.tail{kk:KK}{e:D×AV}{es:List (D×AV)}{m:MapEntry}{ms:List MapEntry}(h:ER g w kk (e::es) (m::ms)):ER g w kk es ms:=
 ⟨by simpa using h.1,fun i k a m' h1 h2=>h.2 (i+1) k a m' (by simpa using h1) (by simpa using h2)⟩
theorem ER.head{kk:KK}{k:D}{a:AV}{es:List (D×AV)}{m:MapEntry}{ms:List MapEntry}(h:ER g w kk ((k,a)::es) (m::ms)):DR g.bd w k m.key∧Qcd kk k=true∧VR g w a m.val∧Triv a m.val:=
 h.2 0 k a m rfl rfl
theorem Qdx{kk:KK}{d:TypeDesc}(hd:KD kk d){x:D}{v:Value}(hx:DR g.bd w x v)(kx:Qcd kk x=true):
  ∀(es:List (D×AV)) (ms:List MapEntry) (i:Nat),ER g w kk es ms→
   (Qgd x es=none∧Instr.findNow d v ms i=some none∧∀b,QlJ x b es=es++ [(x,b)]∧delE x es=es)∨
   ∃a j m,Qgd x es=some a∧ms[j]? =some m∧Instr.findNow d v ms i=some (some (i+j,m.val))∧VR g w a m.val∧Triv a m.val∧DR g.bd w x m.key∧
    (∀b,QlJ x b es=es.modify j fun e=>(e.1,b))∧delE x es=es.eraseIdx j
 | [],ms,i,h=>by
   have:ms= []:=by
    have:=h.1;simp at this
    exact List.length_eq_zero_iff.1 this.symm
   subst this
   exact .inl ⟨rfl,rfl,fun b=>⟨rfl,rfl⟩⟩
 |(k,a)::es,[],i,h=>by have:=h.1;simp at this
 |(k,a)::es,m::ms,i,h=>by
  obtain⟨h1,h2,h3,h4⟩:=h.head
  have hs:=key_same hd hx h1 kx h2
  cases hb:D.beq x k with
  |true=>
   rw[hb]at hs
   have e:=(D.beq_iff x k).1 hb
   subst e
   exact .inr ⟨a,0,m,by simp[Qgd,hb],rfl,by simp[Instr.findNow,hs],h3,h4,h1,fun b=>by simp[QlJ,hb],by simp[delE,hb]⟩
  |false=>
   rw[hb]at hs
   rcases Qdx hd hx kx es ms (i+1) h.tail with⟨q1,q2,q3⟩|⟨a',j,m',q1,q2,q3,q4,q5,q6,q7,q8⟩
   ·exact .inl ⟨by simp[Qgd,hb,q1],by simp[Instr.findNow,hs,q2],fun b=>⟨by simp[QlJ,hb,(q3 b).1],by simp[delE,hb,(q3 b).2]⟩⟩
   ·exact .inr ⟨a',j+1,m',by simp[Qgd,hb,q1],by simpa using q2,by rw[show i+(j+1)=i+1+j by omega];simp[Instr.findNow,hs,q3],q4,q5,q6,
     fun b=>by simp[QlJ,hb,q7 b],by simp[delE,hb,q8]⟩
theorem QhE{kt:TypeId}{kk:KK}(h:Qm0 P kt=some kk):∃d,P.underlying kt=some d∧KD kk d:=by
 unfold Qm0 at h
 split at h<;>simp at h<;>subst h
 ·exact⟨_,by assumption,rfl⟩
 ·exact⟨_,by assumption,rfl⟩
 ·exact⟨_,by assumption,rfl⟩
theorem Qbc{kt:TypeId}{kk:KK}(h:Qm0 P kt=some kk)(e:Bool)(v:Value):(Instr.checkKey e 10000 kt v).run P w= .ok () w:=by
 obtain⟨d,hd,hk⟩:=QhE h
 rw[show(10000:Nat)=9999+1 from rfl]
 unfold Instr.checkKey
 rw[Sem.run_bind,run_underlying hd,Result.andThen_ok]
 cases kk<;>simp only[KD]at hk<;>subst hk<;>cases v<;>simp
theorem QbF{kt:TypeId}{d:TypeDesc}(hd:P.underlying kt=some d){v:Value}{ms:List MapEntry}{r:Option (Nat×Value)}(h:Instr.findNow d v ms 0=some r):
  (Instr.findKey kt v ms).run P w= .ok r w:=by
 simp[Instr.findKey,run_underlying hd,h]
theorem tuple2{a b:AV}{v u:Value}(h1:VR g w a v)(h2:Triv a v)(h3:VR g w b u)(h4:Triv b u):VR g w (.tuple [a,b]) (.tuple #[v,u]):=by
 refine .tuple _ _ rfl (fun i c x hc hx=> ?_) (fun i c x hc hx=> ?_)
 ·match i with
  |0=>simp at hc hx;subst hc hx;exact h1
  |1=>simp at hc hx;subst hc hx;exact h3
  |i+2=>simp at hc
 ·match i with
  |0=>simp at hc hx;subst hc hx;exact h2
  |1=>simp at hc hx;subst hc hx;exact h4
  |i+2=>simp at hc
theorem QmF(hH:HeapOK g H w){t kt e:TypeId}(hd:P.underlying t=some (.map kt e)){kk:KK}(hk:Qm0 P kt=some kk){z:AV}(hz:QdD P e=some z){x:AV}{v kv:Value}{k:D}
  (hx:VR g w x v)(hkv:DR g.bd w k kv)(hkk:Qcd kk k=true){es:List (D×AV)}(hes:(x= .nilmap∧es= [])∨∃r,x= .mapr r∧H[r]? =some (.map kk es))(ok:Bool):
  ∃u,(Instr.lookup t v kv ok).run P w= .ok u w∧
   VR g w (match Qgd k es with|some a=>if ok then .tuple [a,boolD true]else a|none=>if ok then .tuple [z,boolD false]else z) u∧
   Triv (match Qgd k es with|some a=>if ok then .tuple [a,boolD true]else a|none=>if ok then .tuple [z,boolD false]else z) u:=by
 obtain⟨i,zv,hi,hz1,rfl⟩:=Qbu hz
 obtain⟨d,hkd,hkm⟩:=QhE hk
 have hzv:=Qbt g w zv
 obtain⟨ms,hms,hrun⟩:∃ms:Array MapEntry,ER g w kk es ms.toList∧∀r,Instr.findNow d kv ms.toList 0=some r→(Instr.lookup t v kv ok).run P w=
   (match r with|some (_,x)=> .ok (if ok then .tuple #[x,.bool true]else x) w|none=> .ok (if ok then .tuple #[zv,.bool false]else zv) w):=by
  rcases hes with⟨rfl,rfl⟩|⟨r,rfl,hr⟩
  ·cases hx
   refine⟨#[],⟨rfl,fun i k a m h=>by simp at h⟩,fun r hr=> ?_⟩
   unfold Instr.lookup
   simp only[Sem.run_bind,run_underlying hd,Result.andThen_ok,Sem.run_pure,Qbc hk,QbF hkd hr]
   cases r with
   |none=>simp[QaG hi hz1]
   |some p=>simp
  ·cases hx
   obtain⟨_,ms,clk,h1,h2,h3⟩:=Qjy hH hr
   have hget:=Qcz (P:=P) (w:=w) h1 (by simp)
   refine⟨ms,⟨by simp[h2],fun i k a m h4 h5=>h3 i k a m h4 (by simpa using h5)⟩,fun r hr=> ?_⟩
   unfold Instr.lookup
   simp only[Sem.run_bind,run_underlying hd,Result.andThen_ok,Sem.run_pure,hget,Qbc hk,QbF hkd hr]
   cases r with
   |none=>simp[QaG hi hz1]
   |some p=>simp
 rcases Qdx hkm hkv hkk es ms.toList 0 hms with⟨q1,q2,_⟩|⟨a,j,m,q1,q2,q3,q4,q5,_⟩
 ·rw[hrun _ q2,q1]
  cases ok
  ·exact⟨_,rfl,hzv.1,hzv.2⟩
  ·exact⟨_,rfl,tuple2 hzv.1 hzv.2 (.d _ _ (.bool _)) (Triv.d _ _),fun xs e=>by cases e⟩
 ·rw[hrun _ q3,q1]
  cases ok
  ·exact⟨_,rfl,q4,q5⟩
  ·exact⟨_,rfl,tuple2 q4 q5 (.d _ _ (.bool _)) (Triv.d _ _),fun xs e=>by cases e⟩
theorem ER.mono{g':Gh}{w':World}(hw:WF g w g' w'){kk:KK}{es:List (D×AV)}{ms:List MapEntry}(h:ER g w kk es ms):ER g' w' kk es ms:=
 ⟨h.1,fun i k a m h1 h2=>let⟨a1,a2,a3,a4⟩:=h.2 i k a m h1 h2;⟨hw.dr a1,a2,hw.vr a3,a4⟩⟩
theorem or_map{r:Nat}{kk:KK}{es:List (D×AV)}{ms:Array MapEntry}{clk:Nat}(h1:w.heap[g.rho r]? =some (.map ms clk))(h2:ER g w kk es ms.toList):OR g w r (.map kk es):=
 ⟨ms,clk,h1,by simpa using h2.1.symm,fun i k a m h3 h4=>h2.2 i k a m h3 (by simpa using h4)⟩
theorem er_of(hH:HeapOK g H w){r:Nat}{kk:KK}{es:List (D×AV)}(hr:H[r]? =some (.map kk es)):r<g.n∧∃ms clk,w.heap[g.rho r]? =some (.map ms clk)∧ER g w kk es ms.toList:=by
 obtain⟨h0,ms,clk,h1,h2,h3⟩:=Qjy hH hr
 exact⟨h0,ms,clk,h1,by simp[h2],fun i k a m h4 h5=>h3 i k a m h4 (by simpa using h5)⟩
theorem Qh6{kk:KK}{x:D}{v u:Value}(hx:DR g.bd w x v)(hy:DR g.bd w x u)(kx:Qcd kk x=true):v=u∧Instr.sameBits 10000 u v=true:=by
 cases x<;>cases kk<;>simp[Qcd]at kx
 ·cases hx;cases hy;exact⟨rfl,by simp[Instr.sameBits]⟩
 ·cases hx;cases hy;exact⟨rfl,by simp[Instr.sameBits]⟩
 ·cases hx;cases hy
  rename_i s1 e1 s2 e2
  have:s1=s2:=by
   cases s1;cases s2
   simp only[ByteArray.mk.injEq]
   exact Array.toList_inj.1 (e1.trans e2.symm)
  subst this
  exact⟨rfl,by simp[Instr.sameBits,beq_toListBytes]⟩
theorem Qiq(hH:HeapOK g H w){t kt e:TypeId}(hd:P.underlying t=some (.map kt e)){kk:KK}(hk:Qm0 P kt=some kk){r:Nat}{kv u:Value}{k:D}{a:AV}
  (hkv:DR g.bd w k kv)(hkk:Qcd kk k=true){es:List (D×AV)}(hr:H[r]? =some (.map kk es))(ha:VR g w a u):
  ∃w',(Instr.mapUpdate t (.map (some (g.rho r))) kv u).run P w= .ok () w'∧OpOK g w cons g (H.set r (.map kk (QlJ k a.unf es))) w' (.tuple []) undef:=by
 obtain⟨d,hkd,hkm⟩:=QhE hk
 obtain⟨hrn,ms,clk,h1,hms⟩:=er_of hH hr
 have hget:=Qcz (P:=P) (w:=w) h1 (by simp)
 have hlt:g.rho r<w.heap.size:=hH.rho_lt hrn (Qck hr (by simp))
 have tup:VR g w (.tuple []) undef:= .tuple [] #[] rfl (fun i c v h=>by simp at h) (fun i c v h=>by simp at h)
 have fin:∀(ms':Array MapEntry) (clk':Nat),ER g w kk (QlJ k a.unf es) ms'.toList→OpOK g w cons g (H.set r (.map kk (QlJ k a.unf es))) { w with heap:=w.heap.setIfInBounds (g.rho r) (.map ms' clk') } (.tuple []) undef:=by
  intro ms' clk' h
  refine Qju hH hrn (Qck hr (by simp)) (or_map (ms:=ms') (clk:=clk') (by simp[hlt]) (h.mono (Qbb hH hrn (Qck hr (by simp)) (QcO r _)))) tup (fun xs e=>by cases e)
 rcases Qdx hkm hkv hkk es ms.toList 0 hms with⟨q1,q2,q3⟩|⟨b,j,m,q1,q2,q3,q4,q5,q6,q7,_⟩
 ·refine⟨_, ?_,fin (ms.push { key:=kv,val:=u,born:=clk }) (clk+1) ?_⟩
  ·have hset:=Qcx (P:=P) (w:=w) (o:= .map (ms.push { key:=kv,val:=u,born:=clk }) (clk+1)) h1 (by simp)
   simp[Instr.mapUpdate,run_underlying hd,hget,Qbc hk,QbF hkd q2,hset]
  ·rw[(q3 _).1]
   refine⟨by simp[hms.1],fun i k' a' m' h3 h4=> ?_⟩
   rw[Array.toList_push]at h4
   by_cases hi:i<es.length
   ·rw[List.getElem?_append_left hi]at h3
    rw[List.getElem?_append_left (by rw[←hms.1];exact hi)]at h4
    exact hms.2 i k' a' m' h3 h4
   ·rw[List.getElem?_append_right (by omega)]at h3
    rw[List.getElem?_append_right (by rw[←hms.1];omega),←hms.1]at h4
    generalize i-es.length=q at h3 h4
    cases q with
    |zero=>
     simp at h3 h4
     obtain⟨rfl,rfl⟩:=h3
     subst h4
     exact⟨hkv,hkk,ha.unf,Triv.unf _ _⟩
    |succ q=>simp at h3
 ·obtain⟨e1,e2⟩:=Qh6 (u:=m.key) hkv q6 hkk
  refine⟨_, ?_,fin (ms.modify j fun e=> { e with key:=kv,val:=u }) clk ?_⟩
  ·have hset:=Qcx (P:=P) (w:=w) (o:= .map (ms.modify j fun e=> { e with key:=kv,val:=u }) clk) h1 (by simp)
   rw[Array.getElem?_toList]at q2
   simp only[Nat.zero_add]at q3
   simp[Instr.mapUpdate,run_underlying hd,hget,Qbc hk,QbF hkd q3,q2,Instr.keyThatStays,e2,hset]
  ·rw[q7]
   refine⟨by simp[hms.1],fun i k' a' m' h3 h4=> ?_⟩
   rw[Array.toList_modify]at h4
   rw[List.getElem?_modify]at h3 h4
   by_cases hij:j=i
   ·subst hij
    cases h5:es[j]? with
    |none=>simp[h5]at h3
    |some p=>
     obtain⟨k0,a0⟩:=p
     have q2':ms.toList[j]? =some m:=by simpa using q2
     simp[h5]at h3
     rw[q2']at h4
     simp at h4
     obtain⟨rfl,rfl⟩:=h3
     subst h4
     have:=hms.2 j k0 a0 m h5 q2'
     refine⟨?_,this.2.1,ha.unf,Triv.unf _ _⟩
     rw[e1];exact this.1
   ·simp[hij]at h3 h4
    exact hms.2 i k' a' m' h3 (by simpa using h4)
theorem QmJ(hH:HeapOK g H w){t kt e:TypeId}(hd:P.underlying t=some (.map kt e)){kk:KK}(hk:Qm0 P kt=some kk){r:Nat}{kv:Value}{k:D}
  (hkv:DR g.bd w k kv)(hkk:Qcd kk k=true){es:List (D×AV)}(hr:H[r]? =some (.map kk es))(t2 ty:TypeId):
  ∃w',(Builtin.delete_ #[t,t2] ty #[.map (some (g.rho r)),kv]).run P w= .ok undef w'∧OpOK g w cons g (H.set r (.map kk (delE k es))) w' (.tuple []) undef:=by
 obtain⟨d,hkd,hkm⟩:=QhE hk
 obtain⟨hrn,ms,clk,h1,hms⟩:=er_of hH hr
 have hget:=Qcz (P:=P) (w:=w) h1 (by simp)
 have hlt:g.rho r<w.heap.size:=hH.rho_lt hrn (Qck hr (by simp))
 have tup:VR g w (.tuple []) undef:= .tuple [] #[] rfl (fun i c v h=>by simp at h) (fun i c v h=>by simp at h)
 have fin:∀(ms':Array MapEntry) (clk':Nat),ER g w kk (delE k es) ms'.toList→OpOK g w cons g (H.set r (.map kk (delE k es))) { w with heap:=w.heap.setIfInBounds (g.rho r) (.map ms' clk') } (.tuple []) undef:=by
  intro ms' clk' h
  refine Qju hH hrn (Qck hr (by simp)) (or_map (ms:=ms') (clk:=clk') (by simp[hlt]) (h.mono (Qbb hH hrn (Qck hr (by simp)) (QcO r _)))) tup (fun xs e=>by cases e)
 rcases Qdx hkm hkv hkk es ms.toList 0 hms with⟨q1,q2,q3⟩|⟨b,j,m,q1,q2,q3,q4,q5,q6,_,q8⟩
 ·refine⟨_, ?_,fin ms clk ?_⟩
  ·have hset:=Qcx (P:=P) (w:=w) (o:= .map ms clk) h1 (by simp)
   simp[Builtin.delete_,run_underlying hd,hget,Qbc hk,QbF hkd q2,hset,undef]
  ·rw[(q3 .undef).2];exact hms
 ·refine⟨_, ?_,fin (ms.eraseIdxIfInBounds j) clk ?_⟩
  ·have hset:=Qcx (P:=P) (w:=w) (o:= .map (ms.eraseIdxIfInBounds j) clk) h1 (by simp)
   simp only[Nat.zero_add]at q3
   simp[Builtin.delete_,run_underlying hd,hget,Qbc hk,QbF hkd q3,hset,undef]
  ·rw[q8]
   have hj:=(List.getElem?_eq_some_iff.1 q2).1
   have hj':j<ms.size:=by simpa using hj
   have e3:(ms.eraseIdxIfInBounds j).toList=ms.toList.eraseIdx j:=by
    simp[Array.eraseIdxIfInBounds,hj']
   rw[e3]
   refine⟨by rw[List.length_eraseIdx,List.length_eraseIdx,hms.1],fun i k' a' m' h3 h4=> ?_⟩
   rw[List.getElem?_eraseIdx]at h3 h4
   split at h3
   ·rename_i hlt';rw[if_pos hlt']at h4;exact hms.2 i k' a' m' h3 h4
   ·rename_i hlt';rw[if_neg hlt']at h4;exact hms.2 _ k' a' m' h3 h4
theorem Qhx{t kt e:TypeId}(hd:P.underlying t=some (.map kt e)){kk:KK}(hk:Qm0 P kt=some kk)(kv:Value)(t2 ty:TypeId):
  (Builtin.delete_ #[t,t2] ty #[.map none,kv]).run P w= .ok undef w:=by
 simp[Builtin.delete_,run_underlying hd,Qbc hk,undef]
end ops
end Go.Abs
namespace Go.Abs
open Go.RowKit
variable [Tab]
section ops
variable {P:Program} {g:Gh} {H:Qab} {w:World} {cons:List Nat}
theorem Qm8(cells:List Value):∀(vs:List Value) (off k:Nat),off+k+vs.length≤cells.length→
  (vs.zipIdx k).foldl (fun(cs:Array Value) (p:Value×Nat)=>cs.setIfInBounds (off+p.2) p.1) cells.toArray=(cells.take (off+k)++(vs++cells.drop (off+k+vs.length))).toArray:=by
 intro vs
 induction vs generalizing cells with
 |nil=>intro off k h;simp
 |cons v vs ih=>
  intro off k h
  simp only[List.zipIdx_cons,List.foldl_cons,List.setIfInBounds_toArray]
  simp only[List.length_cons]at h
  rw[ih (cells.set (off+k) v) off (k+1) (by simp;omega)]
  congr 1
  have ho:off+k<cells.length:=by omega
  rw[show off+(k+1)=off+k+1 by omega,List.take_succ_eq_append_getElem (by simpa using ho),List.take_set_of_le (Nat.le_refl _)]
  simp only[List.getElem_set_self,List.append_assoc,List.singleton_append,List.length_cons]
  rw[List.drop_set_of_lt (by omega)]
  simp only[List.cons_append]
  rw[show off+k+1+vs.length=off+k+(vs.length+1) by omega]
theorem QjI{place:Nat→Option (Nat×Nat)}:∀(partsA:List (Nat×Nat×AV)) (parts:List (Nat×Value)) (cells:List AV) (vs:Array Value) (cs:List AV),
  CL g w cells vs.toList→fill cells partsA=some cs→partsA.length=parts.length→
  (∀(i:Nat) o s a j v,partsA[i]? =some (o,s,a)→parts[i]? =some (j,v)→place j=some (o,s)∧VR g w a v∧Triv a v)→
  ∃us,Instr.fill place vs parts=some us∧CL g w cs us.toList∧us.size=vs.size
 | [],[],cells,vs,cs,hcl,hf,_,_=>by simp[fill]at hf;subst hf;exact⟨vs,rfl,hcl,rfl⟩
 | [],p::ps,_,_,_,_,_,hl,_=>by simp at hl
 |p::ps,[],_,_,_,_,_,hl,_=>by simp at hl
 |(o,s,a)::ps,(j,v)::qs,cells,vs,cs,hcl,hf,hl,h=>by
  obtain⟨hp,hv,ht⟩:=h 0 o s a j v rfl rfl
  simp only[fill]at hf
  split at hf
  ·rename_i hcond
   obtain⟨hlen,hle,hall⟩:=hcond
   rw[List.all_eq_true]at hall
   have hc:=QbJ hv ht hall
   have hclen:v.cells.size=s:=by rw[←hlen,hc.len];simp
   have hcl':=hcl.splice o hc.unf
   have hvs:vs.size=cells.length:=by have:=hcl.len;simp at this;exact this.symm
   have hfold:v.cells.zipIdx.foldl (fun cs (p:Value×Nat)=>cs.setIfInBounds (o+p.2) p.1) vs=(vs.toList.take o++(v.cells.toList++vs.toList.drop (o+v.cells.toList.length))).toArray:=by
    have:=Qm8 vs.toList v.cells.toList o 0 (by simp;omega)
    simp only[Nat.add_zero]at this
    rw[←this]
    rw[←Array.foldl_toList]
    simp
   obtain⟨us,h1,h2,h3⟩:=QjI ps qs (splice cells o (a.cells.map AV.unf)) (v.cells.zipIdx.foldl (fun cs (p:Value×Nat)=>cs.setIfInBounds (o+p.2) p.1) vs) cs
    (by rw[hfold];simpa using hcl') hf (by simpa using hl) (fun i o' s' a' j' v' q1 q2=>h (i+1) o' s' a' j' v' (by simpa using q1) (by simpa using q2))
   refine⟨us, ?_,h2, ?_⟩
   ·simp only[Instr.fill,hp]
    rw[if_neg (by simp only[ne_eq,Bool.or_eq_true,decide_eq_true_eq,not_or];omega)]
    exact h1
   ·rw[h3,hfold]
    simp
    omega
  ·simp at hf
theorem QeX:∀(fs:List Field) (pl:List (Nat×Nat)),QdY P fs=some pl→
  (fs.mapM (fun f=>do pure (f.offset,←sizeOf f.type):Field→Sem (Nat×Nat))).run P w= .ok pl w
 | [],pl,h=>by simp[QdY]at h;subst h;simp
 |f::fs,pl,h=>by
  simp only[QdY]at h
  split at h
  ·rename_i s ps hs hps
   simp at h;subst h
   obtain⟨i,hi,rfl⟩:=Qan hs
   have ih:=QeX fs ps hps
   simp only[List.mapM_cons,Sem.run_bind,Qaj hi,Result.andThen_ok,Sem.run_pure,ih]
  ·simp at h
theorem QeZ{place:Nat→Option (Nat×Nat)}:∀(parts:List (Nat×Operand)) (ps:List (Nat×Nat×Opd)),QdG place parts=some ps→
  ps.length=parts.length∧∀(i:Nat) j x o s y,parts[i]? =some (j,x)→ps[i]? =some (o,s,y)→place j=some (o,s)∧opd x=some y
 | [],ps,h=>by simp[QdG]at h;subst h;exact⟨rfl,fun i j x o s y h=>by simp at h⟩
 |(j0,x0)::parts,ps,h=>by
  simp only[QdG]at h
  split at h
  ·rename_i o s y qs h1 h2 h3
   simp at h;subst h
   obtain⟨q1,q2⟩:=QeZ parts qs h3
   refine⟨by simp[q1],fun i j x o' s' y' hp hq=> ?_⟩
   cases i with
   |zero=>simp at hp hq;obtain⟨rfl,rfl⟩:=hp;obtain⟨rfl,rfl,rfl⟩:=hq;exact⟨h1,h2⟩
   |succ i=>exact q2 i j x o' s' y' (by simpa using hp) (by simpa using hq)
  ·simp at h
def EvT(g:Gh)(w:World)(ρA:Opd→AV)(ρ:Operand→Value):Prop:=
 ∀x y,opd x=some y→VR g w (ρA y) (ρ x)∧Triv (ρA y) (ρ x)
theorem op_build(hH:HeapOK g H w){t:TypeId}{parts:Array (Nat×Operand)}{c:COp}(hc:Qbg P t parts.toList=some c){ρA:Opd→AV}{ρ:Operand→Value}(hev:EvT g w ρA ρ)
  {zero:List AV}{ps:List (Nat×Nat×Opd)}(he:c= .build zero ps){cs:List AV}(hf:fill zero (ps.map fun p=>(p.1,p.2.1,ρA p.2.2))=some cs):
  ∃u,(Instr.build t (parts.map fun(i,x)=>(i,ρ x))).run P w= .ok u w∧OpOK g w cons g H w (AV.mkAgg cs) u:=by
 subst he
 have core:∀ {i:TypeInfo} {zv:Value} {place:Nat→Option (Nat×Nat)},P.info? t=some i→i.zero=some zv→(absC zv).cells.all AV.isCell=true→QdG place parts.toList=some ps→zero=(absC zv).cells→
   ∃us,Instr.fill place zv.cells (parts.map fun(i,x)=>(i,ρ x)).toList=some us∧CL g w cs us.toList:=by
  intro i zv place hi hz hall hps hzero
  rw[List.all_eq_true]at hall
  obtain⟨q1,q2⟩:=QeZ _ _ hps
  have hcl:=QbJ (Qbt g w zv).1 (Qbt g w zv).2 hall
  subst hzero
  obtain⟨us,h1,h2,_⟩:=QjI (place:=place) (ps.map fun p=>(p.1,p.2.1,ρA p.2.2)) (parts.map fun(i,x)=>(i,ρ x)).toList _ _ cs hcl hf (by simp[q1]) (fun k o s a j v hA hB=>by
   simp only[List.getElem?_map,Option.map_eq_some_iff]at hA
   obtain⟨⟨o',s',y⟩,hp,e⟩:=hA
   simp only[Array.toList_map,List.getElem?_map,Option.map_eq_some_iff]at hB
   obtain⟨⟨j',x⟩,hq,e'⟩:=hB
   simp at e e'
   obtain⟨rfl,rfl,rfl⟩:=e
   obtain⟨rfl,rfl⟩:=e'
   obtain⟨r1,r2⟩:=q2 k j' x o' s' y hq hp
   exact⟨r1,hev x y r2⟩)
  exact⟨us,h1,h2⟩
 unfold Qbg at hc
 split at hc
 ·rename_i z fs hz hun
  obtain⟨i,zv,hi,hz1,rfl⟩:=Qbu hz
  split at hc
  ·rename_i pl hpl
   split at hc
   ·rename_i hall
    simp only[Option.map_eq_some_iff]at hc
    obtain⟨ps',hps,e⟩:=hc
    injection e with e1 e2
    subst e2
    obtain⟨us,h1,h2⟩:=core hi hz1 hall hps e1.symm
    have hm:=QeX (P:=P) (w:=w) _ _ hpl
    have hr:=Qd3 h2
    refine⟨.agg us, ?_,.same hH hr.1 hr.2⟩
    unfold Instr.build
    simp only[Sem.run_bind,QaG hi hz1,run_underlying hun,Result.andThen_ok]
    have:(fs.mapM (fun f=>do pure (f.offset,←sizeOf f.type):Field→Sem (Nat×Nat))).run P w= .ok pl.toArray w:=by
     cases fs with
     |mk l=>
      rw[List.mapM_toArray]
      simp at hm
      simp[hm]
    rw[this]
    have e3:(fun x:Nat=>pl.toArray[x]?)=fun x:Nat=>pl[x]? :=by funext x;simp
    simp only[Result.andThen_ok,e3,h1,Sem.run_pure]
   ·simp at hc
  ·simp at hc
 ·rename_i z n e hz hun
  obtain⟨i,zv,hi,hz1,rfl⟩:=Qbu hz
  split at hc
  ·rename_i s hs
   split at hc
   ·rename_i hall
    simp only[Option.map_eq_some_iff]at hc
    obtain⟨ps',hps,e⟩:=hc
    injection e with e1 e2
    subst e2
    obtain⟨us,h1,h2⟩:=core hi hz1 hall hps e1.symm
    obtain⟨ie,hie,rfl⟩:=Qan hs
    have hr:=Qd3 h2
    refine⟨.agg us, ?_,.same hH hr.1 hr.2⟩
    unfold Instr.build
    simp only[Sem.run_bind,QaG hi hz1,run_underlying hun,Result.andThen_ok,Qaj hie,h1,Sem.run_pure]
   ·simp at hc
  ·simp at hc
 ·simp at hc
theorem toD_vr:∀ {a:AV} {v:Value} {x:D},VR g w a v→AV.toD a=some x→a.isCell=true→DR g.bd w x v∧x.isCell=true:=by
 intro a v x h e hc
 cases h with
 |d y v h=>simp[AV.toD]at e;subst e;exact⟨h,by simpa[AV.isCell]using hc⟩
 |fsl ys v h=>simp[AV.toD]at e;subst e;exact⟨h,rfl⟩
 |lit ys b n c h ho=>simp[AV.toD]at e;subst e;exact⟨h,rfl⟩
 |agg=>simp[AV.isCell]at hc
 |_=>simp[AV.toD]at e
theorem QlS:∀(cs:List AV) (vs:List Value) (xs:List D),CL g w cs vs→AV.toDs cs=some xs→
  xs.length=vs.length∧(∀x∈xs,x.isCell=true)∧∀(i:Nat) x v,xs[i]? =some x→vs[i]? =some v→DR g.bd w x v
 | [],vs,xs,h,e=>by
   simp[AV.toDs]at e;subst e
   have:=h.len;simp at this
   exact⟨by simp[this.symm],by simp,fun i x v h=>by simp at h⟩
 |c::cs,[],xs,h,e=>by have:=h.len;simp at this
 |c::cs,v::vs,xs,h,e=>by
  simp only[AV.toDs]at e
  split at e
  ·rename_i x xs' h1 h2
   simp at e;subst e
   have ht:CL g w cs vs:=⟨by have:=h.len;simpa using this,fun c' hc=>h.cell c' (by simp[hc]),fun i c' v' q1 q2=>h.vr (i+1) c' v' (by simpa using q1) (by simpa using q2)⟩
   obtain⟨q1,q2,q3⟩:=QlS cs vs xs' ht h2
   have h0:=toD_vr (h.vr 0 c v rfl rfl).1 h1 (h.cell c (by simp))
   refine⟨by simp[q1], ?_,fun i y u r1 r2=> ?_⟩
   ·intro y hy
    rcases List.mem_cons.1 hy with rfl|hy
    ·exact h0.2
    ·exact q2 y hy
   ·cases i with
    |zero=>simp at r1 r2;subst r1 r2;exact h0.1
    |succ i=>exact q3 i y u (by simpa using r1) (by simpa using r2)
  ·simp at e
theorem Qed{sz:Nat}{agg:Bool}:∀(n:Nat) (cs:List AV) (vs:List Value) (xs:List D),CL g w cs vs→n*sz≤cs.length→chunks sz agg n cs=some xs→
  xs.length=n∧(∀x∈xs,x.cells.length=sz)∧(∀x∈xs,∀c∈x.cells,c.isCell=true)∧
   ∀(i j:Nat) x c,xs[i]? =some x→x.cells[j]? =some c→∃v,vs[i*sz+j]? =some v∧DR g.bd w c v
 |0,cs,vs,xs,h,_,e=>by
  simp[chunks]at e;subst e
  exact⟨rfl,by simp,by simp,fun i j x c h=>by simp at h⟩
 |n+1,cs,vs,xs,h,hn,e=>by
  simp only[chunks]at e
  split at e
  ·rename_i ys rest h1 h2
   have hs:=h.sub 0 sz
   simp only[List.drop_zero]at hs
   obtain⟨a1,a2,a3⟩:=QlS _ _ _ hs h1
   have hd:=h.sub sz cs.length
   rw[List.take_of_length_le (by simp),List.take_of_length_le (by simp[h.len])]at hd
   have hn':n*sz+sz≤cs.length:=by rw[Nat.succ_mul]at hn;exact hn
   obtain⟨b1,b2,b3,b4⟩:=Qed n _ _ rest hd (by simp;omega) h2
   have hlen:ys.length=sz:=by rw[a1];have:=h.len;simp;omega
   have main:∀x0:D,x0.cells=ys→xs=x0::rest→xs.length=n+1∧(∀x∈xs,x.cells.length=sz)∧(∀x∈xs,∀c∈x.cells,c.isCell=true)∧
     ∀(i j:Nat) x c,xs[i]? =some x→x.cells[j]? =some c→∃v,vs[i*sz+j]? =some v∧DR g.bd w c v:=by
    intro x0 hx0 hxs
    subst hxs
    refine⟨by simp[b1], ?_, ?_,fun i j x c q1 q2=> ?_⟩
    ·intro x hx
     rcases List.mem_cons.1 hx with rfl|hx
     ·rw[hx0,hlen]
     ·exact b2 x hx
    ·intro x hx c hc
     rcases List.mem_cons.1 hx with rfl|hx
     ·rw[hx0]at hc;exact a2 c hc
     ·exact b3 x hx c hc
    ·cases i with
     |zero=>
      simp at q1;subst q1
      rw[hx0]at q2
      have hj:=(List.getElem?_eq_some_iff.1 q2).1
      have hv:∃v,(vs.take sz)[j]? =some v:=⟨_,List.getElem?_eq_getElem (by rw[←a1];exact hj)⟩
      obtain⟨v,hv⟩:=hv
      refine⟨v, ?_,a3 j c v q2 hv⟩
      rw[List.getElem?_take]at hv
      split at hv
      ·simpa using hv
      ·simp at hv
     |succ i=>
      obtain⟨v,hv,hdv⟩:=b4 i j x c (by simpa using q1) q2
      rw[List.getElem?_drop]at hv
      refine⟨v, ?_,hdv⟩
      rw[show(i+1)*sz+j=sz+(i*sz+j) by rw[Nat.succ_mul];omega]
      exact hv
   cases agg with
   |true=>simp at e;exact main (.agg ys) rfl e.symm
   |false=>
    simp only[Bool.false_eq_true,if_false]at e
    split at e
    ·rename_i x
     simp at e
     have hx:x.isCell=true:=a2 x (by simp)
     refine main x ?_ e.symm
     cases x<;>first|rfl|simp[D.isCell]at hx
    ·simp at e
  ·simp at e
theorem Qgc{α:Type}(l:List α):∀(n k:Nat),k<n*l.length→((List.replicate n l).flatten)[k]? =l[k % l.length]?
 |0,k,h=>by simp at h
 |n+1,k,h=>by
  rw[List.replicate_succ,List.flatten_cons]
  by_cases hk:k<l.length
  ·rw[List.getElem?_append_left hk,Nat.mod_eq_of_lt hk]
  ·have hk':l.length≤k:=Nat.le_of_not_lt hk
   rw[List.getElem?_append_right hk',Qgc l n (k-l.length) (by rw[Nat.succ_mul]at h;omega),←Nat.mod_eq_sub_mod hk']
theorem Qgb{α:Type}(l:List α)(n:Nat):((List.replicate n l).flatten).length=n*l.length:=by
 induction n with
 |zero=>simp
 |succ n ih=>rw[List.replicate_succ,List.flatten_cons,List.length_append,ih,Nat.succ_mul];omega
theorem QjZ{z:List AV}{zv:Array Value}(h:CL g w z zv.toList)(n:Nat)(hz:0<z.length):
  CL g w (List.replicate n z).flatten ((Array.range (n*z.length)).map (zv[· % zv.size]!)).toList:=by
 have hlen:zv.size=z.length:=by have:=h.len;simp at this;exact this.symm
 refine⟨by simp,fun c hc=> ?_,fun i c v hc hv=> ?_⟩
 ·obtain⟨l,hl,hcl⟩:=List.mem_flatten.1 hc
  rw[List.mem_replicate]at hl
  rw[hl.2]at hcl
  exact h.cell c hcl
 ·have hi:i<n*z.length:=by have:=(List.getElem?_eq_some_iff.1 hc).1;rwa [Qgb]at this
  rw[Qgc z n i hi]at hc
  have hm:i % z.length<z.length:=Nat.mod_lt _ hz
  simp[hi]at hv
  rw[hlen]at hv
  refine h.vr _ c v hc ?_
  have:i % z.length<zv.size:=by omega
  rw[getElem!_pos zv _ this]at hv
  rw[←hv]
  simp[this]
theorem QeY:∀(parts:List (Nat×Operand)) (ps:List (Nat×Opd)),Qer parts=some ps→
  ps.length=parts.length∧∀(i:Nat) j x j' y,parts[i]? =some (j,x)→ps[i]? =some (j',y)→j'=j∧opd x=some y
 | [],ps,h=>by simp[Qer]at h;subst h;exact⟨rfl,fun i j x o s h=>by simp at h⟩
 |(j0,x0)::parts,ps,h=>by
  simp only[Qer]at h
  split at h
  ·rename_i y qs h1 h2
   simp at h;subst h
   obtain⟨q1,q2⟩:=QeY parts qs h2
   refine⟨by simp[q1],fun i j x j' y' hp hq=> ?_⟩
   cases i with
   |zero=>simp at hp hq;obtain⟨rfl,rfl⟩:=hp;obtain⟨rfl,rfl⟩:=hq;exact⟨rfl,h1⟩
   |succ i=>exact q2 i j x j' y' (by simpa using hp) (by simpa using hq)
  ·simp at h
theorem QgW(_hH:HeapOK g H w){t e:TypeId}(hd:P.underlying t=some (.slice e)){s:Nat}(hs:QaX P e=some s){z:AV}(hz:QdD P e=some z)(hzc:z.cells.all AV.isCell=true)(hzl:z.cells.length=s)(hs0:0<s)
  {len:Nat}(hl:len*s≤16777216){parts:Array (Nat×Operand)}{ps:List (Nat×Opd)}(hps:Qer parts.toList=some ps){ρA:Opd→AV}{ρ:Operand→Value}(hev:EvT g w ρA ρ){cs:List AV}
  (hf:fill (List.replicate len z.cells).flatten (ps.map fun p=>(p.1*s,s,ρA p.2))=some cs):
  ∃us e',(Instr.buildSlice t len (parts.map fun(i,x)=>(i,ρ x))).run P w= .ok (.slice (some ⟨w.heap.size,0,none⟩) len len) (w.alloc (.cells us e'))∧CL g w cs us.toList∧us.size=len*s:=by
 obtain⟨i,hi,rfl⟩:=Qan hs
 obtain⟨i',zv,hi',hz1,rfl⟩:=Qbu hz
 rw[hi]at hi';injection hi' with hi';subst hi'
 rw[List.all_eq_true]at hzc
 have hcl:=QbJ (Qbt g w zv).1 (Qbt g w zv).2 hzc
 have hzs:zv.cells.size=i.size:=by rw[←hzl,hcl.len];simp
 have hzero:=QjZ hcl len (by rw[hzl];exact hs0)
 rw[hzl]at hzero
 obtain⟨q1,q2⟩:=QeY _ _ hps
 obtain⟨us,h1,h2,h3⟩:=QjI (place:=fun k=>some (k*i.size,i.size)) (ps.map fun p=>(p.1*i.size,i.size,ρA p.2)) (parts.map fun(k,x)=>(k,ρ x)).toList _ _ cs hzero hf (by simp[q1]) (fun k o s a j v hA hB=>by
  simp only[List.getElem?_map,Option.map_eq_some_iff]at hA
  obtain⟨⟨j',y⟩,hp,e⟩:=hA
  simp only[Array.toList_map,List.getElem?_map,Option.map_eq_some_iff]at hB
  obtain⟨⟨j'',x⟩,hq,e'⟩:=hB
  simp at e e'
  obtain⟨rfl,rfl,rfl⟩:=e
  obtain⟨rfl,rfl⟩:=e'
  obtain⟨r1,r2⟩:=q2 k j'' x j' y hq hp
  subst r1
  exact⟨rfl,hev x y r2⟩)
 refine⟨us,e, ?_,h2,by rw[h3];simp⟩
 unfold Instr.buildSlice
 have hne:¬(len*i.size>2^24):=by omega
 by_cases hz0:len*i.size=0
 ·have e0:∀f:Nat→Value,Array.map f (Array.range 0)= #[]:=fun f=>by simp
  rw[hz0,e0]at h1
  have hn0:¬((0:Nat)>2^24):=by omega
  simp only[Sem.run_bind,run_underlying hd,Result.andThen_ok,Qaj hi,hz0,hn0,if_false,if_true,Sem.run_pure,e0]
  rw[h1]
  simp[newRow]
 ·simp only[Sem.run_bind,run_underlying hd,Result.andThen_ok,Qaj hi,hne,if_false,hz0,QaG hi hz1,Sem.run_pure]
  rw[h1]
  simp[newRow]
end ops
end Go.Abs
