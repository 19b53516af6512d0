/- The abstract machine of this claim, part 1. -/
import Derived.Orders
set_option linter.unusedSimpArgs false
set_option linter.unusedVariables false
set_option linter.unusedSectionVars false
set_option linter.unnecessarySimpa false
namespace Go.Am
open Go
inductive AV where
 | undef
 | bool (b:Bool)
 | int (k:IntKind) (n:Int)
 | str (s:List UInt8)
 | D6
 | ro (cs:List AV)
 | hp (id off:Nat)
 | ep (id gen sz i k:Nat)
 | AI
 | sl (sz:Nat) (ex:Bool) (es:List (List AV))
 | hs (id gen sz off len:Nat) (ex:Bool)
 | FW
 | hm (id:Nat)
 | fn (f:FuncId) (first cap:List AV)
 | FY
 | iface (t:TypeId) (v:AV)
 | Hb
 | agg (cs:List AV)
 | tup (vs:List AV)
 deriving Inhabited
inductive Blk where
 | var (lk:Bool) (cs:List AV)
 | arr (sz:Nat) (lk:Bool) (es:List (List AV))
 | mp (es:List (AV×AV))
 | hole
 deriving Inhabited
abbrev AE:=List Blk
abbrev Tm:=List (Nat×AV)
def Tm.get:Tm→Nat→AV
 | [],_=> .undef
 | (e,v)::r,d=>match Nat.beq e d with
  | true=>v
  | false=>Tm.get r d
def Tm.init:Nat→List AV→Tm
 | _,[]=>[]
 | k,v::r=>(k,v)::Tm.init (k+1) r
def Tm.only (t:Tm):List Nat→Tm
 | []=>[]
 | d::r=>(d,t.get d)::Tm.only t r
def AV.cells:AV→Option (List AV)
 | .undef=>none
 | .tup _=>none
 | .agg cs=>some cs
 | v=>some [v]
def AV.Ij:AV→Bool
 | .undef=>false
 | .tup _=>false
 | .agg _=>false
 | _=>true
mutual
def AV.AD:AV→Bool
 | .hp .. => false
 | .ep .. => false
 | .hs .. => false
 | .hm .. => false
 | .agg cs=>AG cs
 | .tup vs=>AG vs
 | .fn _ fs cap=>AG fs&&AG cap
 | .iface _ v=>v.AD
 | _=>true
def AG:List AV→Bool
 | []=>true
 | c::cs=>c.AD&&AG cs
end
mutual
def AV.beq:AV→AV→Bool
 | .undef,.undef=>true
 | .bool a,.bool b=>a == b
 | .int k a,.int l b=>decide (k=l)&&decide (a=b)
 | .str a,.str b=>a == b
 | .D6,.D6=>true
 | .ro a,.ro b=>IT a b
 | .hp i o,.hp j p=>Nat.beq i j&&Nat.beq o p
 | .ep a b c d e,.ep a' b' c' d' e'=>Nat.beq a a'&&Nat.beq b b'&&Nat.beq c c'&&Nat.beq d d'&&Nat.beq e e'
 | .AI,.AI=>true
 | .sl a b c,.sl a' b' c'=>Nat.beq a a'&&b == b'&&I0 c c'
 | .hs a b c d e f,.hs a' b' c' d' e' f'=>Nat.beq a a'&&Nat.beq b b'&&Nat.beq c c'&&Nat.beq d d'&&Nat.beq e e'&&f == f'
 | .FW,.FW=>true
 | .hm i,.hm j=>Nat.beq i j
 | .fn f a c,.fn g b d=>Nat.beq f g&&IT a b&&IT c d
 | .FY,.FY=>true
 | .iface t v,.iface u w=>Nat.beq t u&&AV.beq v w
 | .Hb,.Hb=>true
 | .agg a,.agg b=>IT a b
 | .tup a,.tup b=>IT a b
 | _,_=>false
def IT:List AV→List AV→Bool
 | [],[]=>true
 | a::r,b::s=>AV.beq a b&&IT r s
 | _,_=>false
def I0:List (List AV)→List (List AV)→Bool
 | [],[]=>true
 | a::r,b::s=>IT a b&&I0 r s
 | _,_=>false
end
def Jk:List (AV×AV)→List (AV×AV)→Bool
 | [],[]=>true
 | a::r,b::s=>AV.beq a.1 b.1&&AV.beq a.2 b.2&&Jk r s
 | _,_=>false
def Blk.beq:Blk→Blk→Bool
 | .var l a,.var m b=>l == m&&IT a b
 | .arr s l a,.arr t m b=>Nat.beq s t&&l == m&&I0 a b
 | .mp a,.mp b=>Jk a b
 | .hole,.hole=>true
 | _,_=>false
def C4:Value→Option AV
 | .bool b=>some (.bool b)
 | .int k n=>some (.int k n)
 | .string s=>some (.str s.data.toList)
 | .pointer none=>some .D6
 | .slice none 0 0=>some .AI
 | .map none=>some .FW
 | .nilFunc=>some .FY
 | .nilIface=>some .Hb
 | _=>none
def H7:List Value→Option (List AV)
 | []=>some []
 | v::r=>match C4 v,H7 r with
  | some a,some b=>some (a::b)
  | _,_=>none
def C3:Value→Option AV
 | .agg cs=>(H7 cs.toList).map .agg
 | v=>C4 v
structure TyI where
 d:TypeDesc
 size:Nat
 bytes:Nat
 zero:Option (List AV)
 deriving Inhabited
abbrev Ty:=TypeId→Option TyI
inductive Tree (α:Type) where
 | AA
 | AB (k:Nat) (v:α) (l r:Tree α)
def Tree.find {α:Type}:Tree α→Nat→Option α
 | .AA,_=>none
 | .AB k v l r,x=>match Nat.beq x k with
  | true=>some v
  | false=>match Nat.blt x k with
   | true=>l.find x
   | false=>r.find x
def DC (h:AE):AV→Option (List AV)
 | .ro cs=>some cs
 | .hp id off=>match h[id]? with
  | some (.var _ cs)=>some (cs.drop off)
  | _=>none
 | .ep id gen sz i k=>match h[id]? with
  | some (.arr sz' _ es)=>match Nat.beq es.length gen&&Nat.beq sz' sz with
   | true=>(es[i]?).map (·.drop k)
   | false=>none
  | _=>none
 | _=>none
def LO (T:Ty) (t:TypeId) (cs:List AV):Option AV:=
 match T t with
 | some i=>match i.d with
  | .struct _=>match Nat.ble i.size cs.length with
   | true=>some (.agg (cs.take i.size))
   | false=>none
  | .array _ _=>match Nat.ble i.size cs.length with
   | true=>some (.agg (cs.take i.size))
   | false=>none
  | _=>cs.head?
 | none=>none
def Bt (T:Ty) (h:AE) (t:TypeId) (p:AV):Option AV:=(DC h p).bind (LO T t)
def A3 (old:List AV) (off:Nat) (new:List AV):List AV:=old.take off++new++old.drop (off+new.length)
def CL (T:Ty) (h:AE) (t:TypeId) (p v:AV):Option AE:=
 match T t,v.cells with
 | some ti,some cs=>
  match Nat.beq cs.length ti.size with
  | true=>match p with
   | .hp id off=>match h[id]? with
    | some (.var false old)=>match Nat.ble (off+cs.length) old.length with
     | true=>some (h.set id (.var false (A3 old off cs)))
     | false=>none
    | _=>none
   | .ep id gen sz' i k=>match h[id]? with
    | some (.arr sz false es)=>match Nat.beq es.length gen&&Nat.beq sz sz',es[i]? with
     | true,some e=>match Nat.ble (k+cs.length) e.length with
      | true=>some (h.set id (.arr sz false (es.set i (A3 e k cs))))
      | false=>none
     | _,_=>none
    | _=>none
   | _=>none
  | false=>none
 | _,_=>none
def Az (h:AE):AV→Option (List (List AV))
 | .AI=>some []
 | .sl _ _ es=>some es
 | .hs id gen sz off len _=>match h[id]? with
  | some (.arr sz' _ es)=>match Nat.beq es.length gen&&Nat.beq sz' sz&&Nat.ble (off+len) es.length with
   | true=>some ((es.drop off).take len)
   | false=>none
  | _=>none
 | _=>none
def FQ:AV→Option Nat
 | .AI=>some 0
 | .sl _ _ es=>some es.length
 | .hs _ _ _ _ len _=>some len
 | .str s=>some s.length
 | .FW=>some 0
 | _=>none
mutual
def snap:Nat→AV→AE→Option (AV×AE)
 | 0,_,_=>none
 | n+1,v,h=>match v with
  | .hp id off=>match h[id]? with
   | some (.var _ cs)=>match FZ n cs h with
    | some (cs',h')=>match h'[id]? with
     | some (.var _ _)=>some (.ro (cs'.drop off),h'.set id (.var true cs'))
     | _=>none
    | none=>none
   | _=>none
  | .ep id gen sz' i k=>match h[id]? with
   | some (.arr sz _ es)=>match Nat.beq es.length gen&&Nat.beq sz sz'&&es.all AG with
    | true=>(es[i]?).map fun e=>(.ro (e.drop k),h.set id (.arr sz true es))
    | false=>none
   | _=>none
  | .hs id gen sz off len ex=>match h[id]? with
   | some (.arr sz' _ es)=>match Nat.beq es.length gen&&Nat.beq sz' sz&&Nat.ble (off+len) es.length&&es.all AG with
    | true=>some (.sl sz ex ((es.drop off).take len),h.set id (.arr sz' true es))
    | false=>match Nat.beq es.length gen&&Nat.beq sz' sz&&Nat.ble (off+len) es.length with
     | true=>match Fe n es h with
      | some (es',h')=>match h'[id]? with
       | some (.arr sz2 _ es2)=>match Nat.beq sz2 sz'&&Nat.beq es2.length es.length with
        | true=>some (.sl sz ex ((es'.drop off).take len),h'.set id (.arr sz' true es'))
        | false=>none
       | _=>none
      | none=>none
     | false=>none
   | _=>none
  | .hm _=>none
  | .agg cs=>match AG cs with
   | true=>some (.agg cs,h)
   | false=>(FZ n cs h).map fun (cs',h')=>(.agg cs',h')
  | .tup cs=>match AG cs with
   | true=>some (.tup cs,h)
   | false=>(FZ n cs h).map fun (cs',h')=>(.tup cs',h')
  | .fn f fs cs=>match AG fs&&AG cs with
   | true=>some (.fn f fs cs,h)
   | false=>match FZ n fs h with
    | some (fs',h')=>(FZ n cs h').map fun (cs',h'')=>(.fn f fs' cs',h'')
    | none=>none
  | .iface t v=>(snap n v h).map fun (v',h')=>(.iface t v',h')
  | v=>some (v,h)
def FZ:Nat→List AV→AE→Option (List AV×AE)
 | 0,_,_=>none
 | _+1,[],h=>some ([],h)
 | n+1,c::cs,h=>match snap n c h with
  | some (c',h')=>match FZ n cs h' with
   | some (cs',h'')=>some (c'::cs',h'')
   | none=>none
  | none=>none
def Fe:Nat→List (List AV)→AE→Option (List (List AV)×AE)
 | 0,_,_=>none
 | _+1,[],h=>some ([],h)
 | n+1,c::cs,h=>match FZ n c h with
  | some (c',h')=>match Fe n cs h' with
   | some (cs',h'')=>some (c'::cs',h'')
   | none=>none
  | none=>none
end
inductive CR where
 | ret (v:AV)
 | pan (v:AV)
 deriving Inhabited
abbrev CH:=FuncId→List AV→AE→Option (CR×AE)
structure Mode where
 fresh:Bool:=false
 keepTop:Bool:=false
 deriving Inhabited
structure Par where
 ty:Ty
 fn:FuncId→Option Func
 mode:FuncId→Mode
 keep:FuncId→Nat→Option (List Nat)
 prim:FuncId→Option (List AV→Option AV):=fun _=>none
 mutLit:FuncId→Bool:=fun _=>false
 eff:FuncId→Option (List AV→AE→Option (CR×AE)):=fun _=>none
def ev (t:Tm):Operand→Option AV
 | .tmp d=>some (t.get d)
 | .const v=>C3 v
 | .global _=>none
 | .func f=>some (.fn f [] [])
def evs (t:Tm):List Operand→Option (List AV)
 | []=>some []
 | x::r=>match ev t x,evs t r with
  | some a,some b=>some (a::b)
  | _,_=>none
def und (T:Ty) (t:TypeId):Option TypeDesc:=match T t with
 | some i=>some i.d
 | none=>none
def siz (T:Ty) (t:TypeId):Nat:=match T t with
 | some i=>i.size
 | none=>0
def byt (T:Ty) (t:TypeId):Nat:=match T t with
 | some i=>i.bytes
 | none=>0
def DU (T:Ty) (t:TypeId):Option (List AV):=match T t with
 | some i=>match i.zero with
  | some z=>match Nat.beq z.length i.size with
   | true=>some z
   | false=>none
  | none=>none
 | none=>none
def cellOf (z:List AV):Option AV:=match z with
 | [c]=>match c.Ij with
  | true=>some c
  | false=>none
 | _=>none
def Mq (d:TypeDesc) (z:List AV):Option AV:=match d with
 | .struct _=>some (.agg z)
 | .array _ _=>some (.agg z)
 | _=>cellOf z
def zeroV (T:Ty) (t:TypeId):Option AV:=match T t with
 | some i=>i.zero.bind (Mq i.d)
 | none=>none
def J2 (T:Ty) (s:TypeId) (f:Nat):Option Field:=
 match T s with
 | some i=>match i.d with
  | .struct fs=>fs[f]?
  | _=>none
 | none=>none
def I1:IntKind→Int
 | .i8=>256
 | .u8=>256
 | .i16=>65536
 | .u16=>65536
 | .i32=>4294967296
 | .u32=>4294967296
 | .i64=>18446744073709551616
 | .u64=>18446744073709551616
def G7:IntKind→Int
 | .i8=>128
 | .i16=>32768
 | .i32=>2147483648
 | .i64=>9223372036854775808
 | .u8=>256
 | .u16=>65536
 | .u32=>4294967296
 | .u64=>18446744073709551616
def wr (k:IntKind) (n:Int):Int:=
 match decide (0≤n∧n<G7 k) with
 | true=>n
 | false=>match decide (n % I1 k<G7 k) with
  | true=>n % I1 k
  | false=>n % I1 k - I1 k
def Db (op:BinOp) (k:IntKind) (x y:Int):Option AV:=
 match op with
 | .add=>some (.int k (wr k (x+y)))
 | .sub=>some (.int k (wr k (x - y)))
 | .mul=>some (.int k (wr k (x * y)))
 | .quo=>match decide (y=0) with
  | true=>none
  | false=>some (.int k (wr k (x.tdiv y)))
 | .rem=>match decide (y=0) with
  | true=>none
  | false=>some (.int k (x.tmod y))
 | .and=>some (.int k (wr k (BitVec.ofInt k.bits x &&& BitVec.ofInt k.bits y).toNat))
 | .or=>some (.int k (wr k (BitVec.ofInt k.bits x ||| BitVec.ofInt k.bits y).toNat))
 | .xor=>some (.int k (wr k (BitVec.ofInt k.bits x ^^^ BitVec.ofInt k.bits y).toNat))
 | .andNot=>some (.int k (wr k (BitVec.ofInt k.bits x &&& ~~~(BitVec.ofInt k.bits y)).toNat))
 | .eql=>some (.bool (x == y))
 | .neq=>some (.bool (x != y))
 | .lss=>some (.bool (decide (x<y)))
 | .leq=>some (.bool (decide (x≤y)))
 | .gtr=>some (.bool (decide (x > y)))
 | .geq=>some (.bool (decide (x ≥ y)))
 | _=>none
def GQ (op:BinOp) (k:IntKind) (x y:Int):Option AV:=
 match decide (y<0) with
 | true=>none
 | false=>match op with
  | .shl=>some (.int k (wr k (x * ((2 ^ (min y.toNat k.bits):Nat):Int))))
  | .shr=>some (.int k (x.fdiv ((2 ^ (min y.toNat k.bits):Nat):Int)))
  | _=>none
def D0 (op:BinOp) (x y:List UInt8):Option AV:=
 match op with
 | .add=>match Nat.ble (x.length+y.length) 4611686018427387904 with
  | true=>some (.str (x++y))
  | false=>none
 | .eql=>some (.bool (x == y))
 | .neq=>some (.bool !(x == y))
 | .lss=>some (.bool (Op.bytesLess x y))
 | .leq=>some (.bool (Op.bytesLess x y||x == y))
 | .gtr=>some (.bool !(Op.bytesLess x y||x == y))
 | .geq=>some (.bool !(Op.bytesLess x y))
 | _=>none
def eqA (d:Option TypeDesc) (x y:AV):Option Bool:=
 match d,x,y with
 | some .bool,.bool a,.bool b=>some (a == b)
 | some (.pointer _),.D6,.D6=>some true
 | some (.pointer _),.D6,.ro _=>some false
 | some (.pointer _),.D6,.hp .. => some false
 | some (.pointer _),.D6,.ep .. => some false
 | some (.pointer _),.ro _,.D6=>some false
 | some (.pointer _),.hp ..,.D6=>some false
 | some (.pointer _),.ep ..,.D6=>some false
 | some (.slice _),.AI,.AI=>some true
 | some (.slice _),.AI,.sl .. => some false
 | some (.slice _),.AI,.hs .. => some false
 | some (.slice _),.sl ..,.AI=>some false
 | some (.slice _),.hs ..,.AI=>some false
 | some (.map _ _),.FW,.FW=>some true
 | some (.map _ _),.FW,.hm _=>some false
 | some (.map _ _),.hm _,.FW=>some false
 | some (.func _ _ _),.FY,.FY=>some true
 | some (.func _ _ _),.FY,.fn .. => some false
 | some (.func _ _ _),.fn ..,.FY=>some false
 | some (.interface _),.Hb,.iface .. => some false
 | some (.interface _),.iface ..,.Hb=>some false
 | _,_,_=>none
def Gm (T:Ty) (op:BinOp) (t:TypeId) (x y:AV):Option AV:=
 match op,x,y with
 | .shl,.int k a,.int _ b=>GQ .shl k a b
 | .shr,.int k a,.int _ b=>GQ .shr k a b
 | op,.int k a,.int k' b=>match decide (k=k') with
  | true=>Db op k a b
  | false=>none
 | op,.str a,.str b=>D0 op a b
 | .eql,x,y=>(eqA (und T t) x y).map .bool
 | .neq,x,y=>(eqA (und T t) x y).map fun b=> .bool !b
 | _,_,_=>none
def unA (op:UnOp) (x:AV):Option AV:=
 match op,x with
 | .not,.bool b=>some (.bool !b)
 | .neg,.int k n=>some (.int k (wr k (0 - n)))
 | .xor,.int k n=>Db .xor k (if k.signed then -1 else k.max) n
 | _,_=>none
def intOf:AV→Option Int
 | .int _ n=>some n
 | _=>none
def Es (i:Int) (n:Nat):Option Nat:=
 match decide (0≤i∧i<n) with
 | true=>some i.toNat
 | false=>none
def FA (i:Int) (n:Nat):Option Nat:=
 match decide (0≤i∧i≤n) with
 | true=>some i.toNat
 | false=>none
def BJ (T:Ty) (t:TypeId) (x ix:AV):Option AV:=
 match und T t,x,intOf ix with
 | some (.slice e),.sl sz _ es,some i=>match Nat.beq sz (siz T e)&&Nat.blt 0 (siz T e),Es i es.length with
  | true,some j=>(es[j]?).map .ro
  | _,_=>none
 | some (.slice e),.hs id gen sz off len _,some i=>match Nat.beq sz (siz T e)&&Nat.blt 0 (siz T e),Es i len with
  | true,some j=>some (.ep id gen sz (off+j) 0)
  | _,_=>none
 | some (.array n e),.ro cs,some i=>match Nat.blt 0 (siz T e),Es i n with
  | true,some j=>some (.ro (cs.drop (j * siz T e)))
  | _,_=>none
 | some (.array n e),.hp id off,some i=>match Nat.blt 0 (siz T e),Es i n with
  | true,some j=>some (.hp id (off+j * siz T e))
  | _,_=>none
 | _,_,_=>none
def L6 (T:Ty) (t:TypeId) (x ix:AV):Option AV:=
 match und T t,x,intOf ix with
 | some .string,.str s,some i=>match Es i s.length with
  | some j=>(s[j]?).map fun b=> .int .u8 b.toNat
  | none=>none
 | some (.array n e),.agg cs,some i=>match Nat.blt 0 (siz T e),Es i n with
  | true,some j=>LO T e (cs.drop (j * siz T e))
  | _,_=>none
 | _,_,_=>none
def AX (T:Ty) (s:TypeId) (p:AV) (f:Nat):Option AV:=
 match J2 T s f with
 | none=>none
 | some fd=>match Nat.blt 0 (siz T fd.type),p with
  | true,.ro cs=>some (.ro (cs.drop fd.offset))
  | true,.hp id off=>some (.hp id (off+fd.offset))
  | true,.ep id gen sz i k=>some (.ep id gen sz i (k+fd.offset))
  | _,_=>none
def OH (T:Ty) (s:TypeId) (x:AV) (f:Nat):Option AV:=
 match J2 T s f,x with
 | some fd,.agg cs=>LO T fd.type (cs.drop fd.offset)
 | _,_=>none
def He (place:Nat→Option (Nat×Nat)) (cells:List AV):List (Nat×AV)→Option (List AV)
 | []=>some cells
 | (i,v)::rest=>match place i,v.cells with
  | some (off,size),some cs=>match Nat.beq cs.length size&&Nat.ble (off+cs.length) cells.length with
   | true=>He place (A3 cells off cs) rest
   | false=>none
  | _,_=>none
def DE:List (Nat×Operand)→List AV→List (Nat×AV)
 | (i,_)::r,v::s=>(i,v)::DE r s
 | _,_=>[]
def C5 (T:Ty) (t:TypeId) (parts:List (Nat×AV)):Option AV:=
 match DU T t,und T t with
 | some zero,some (.struct fs)=>(He (fun i=>(fs[i]?).map fun f=>(f.offset,siz T f.type)) zero parts).map .agg
 | some zero,some (.array _ e)=>(He (fun i=>some (i * siz T e,siz T e)) zero parts).map .agg
 | _,_=>none
def Ak (sz:Nat) (es:List (List AV)):List (Nat×AV)→Option (List (List AV))
 | []=>some es
 | (i,v)::rest=>match v.cells with
  | some cs=>match Nat.beq cs.length sz&&Nat.blt i es.length with
   | true=>Ak sz (es.set i cs) rest
   | false=>none
  | none=>none
def Av (h:AE) (sz:Nat) (es:List (List AV)):AV×AE:=(.hs h.length es.length sz 0 es.length false,h++[.arr sz false es])
def Ao (T:Ty) (ml:Bool) (t:TypeId) (len:Nat) (parts:List (Nat×AV)) (h:AE):Option (AV×AE):=
 match und T t with
 | some (.slice e)=>match Nat.blt 0 (siz T e)&&Nat.ble (len * siz T e) 16777216,DU T e with
  | true,some zero=>match Nat.beq zero.length (siz T e) with
   | true=>match Ak (siz T e) (List.replicate len zero) parts with
    | some es=>match !ml&&es.all AG with
     | true=>some (.sl (siz T e) true es,h)
     | false=>some (Av h (siz T e) es)
    | none=>none
   | false=>none
  | _,_=>none
 | _=>none
def Ff (T:Ty) (t:TypeId) (len cap:AV) (h:AE):Option (AV×AE):=
 match und T t,intOf len,intOf cap with
 | some (.slice e),some l,some c=>match decide (0≤l∧l=c∧c<17592186044416∧(byt T e:Int) * c≤17592186044416)&&Nat.blt 0 (siz T e),DU T e with
  | true,some zero=>match Nat.beq zero.length (siz T e) with
   | true=>some (Av h (siz T e) (List.replicate l.toNat zero))
   | false=>none
  | _,_=>none
 | _,_,_=>none
def CZ (s:List UInt8):List (List AV):=s.map fun b=>[.int .u8 b.toNat]
def BO:AV→Option Nat
 | .sl sz _ _=>some sz
 | .hs _ _ sz _ _ _=>some sz
 | _=>none
def CE (sz:Nat) (v:AV):Bool:=match BO v with
 | some s=>Nat.beq s sz
 | none=>true
def OI (T:Ty) (e:TypeId) (zeros:Bool) (x:AV) (h:AE):Option (List (List AV)):=
 match zeros with
 | true=>match x,DU T e with
  | .int _ n,some z=>match decide (0≤n∧n≤17592186044416)&&Nat.beq z.length (siz T e) with
   | true=>some (List.replicate n.toNat z)
   | false=>none
  | _,_=>none
 | false=>match x with
  | .str b=>match Nat.beq (siz T e) 1 with
   | true=>some (CZ b)
   | false=>none
  | _=>match CE (siz T e) x with
   | true=>Az h x
   | false=>none
def L7 (T:Ty) (t:TypeId) (zeros:Bool) (s x:AV) (h:AE):Option (AV×AE):=
 match und T t with
 | some (.slice e)=>
  match OI T e zeros x h,FQ s with
  | some xs,some n=>
   match CE (siz T e) s&&Nat.blt 0 (siz T e)&&Nat.ble ((n+xs.length) * byt T e) 17592186044416&&Nat.ble (n+xs.length) 17592186044416&&(DU T e).isSome with
   | false=>none
   | true=>match xs with
    | []=>match s with
     | .AI=>some (s,h)
     | .sl .. => some (s,h)
     | .hs .. => some (s,h)
     | _=>none
    | _::_=>match s with
     | .AI=>some (Av h (siz T e) xs)
     | .sl _ true es=>some (Av h (siz T e) (es++xs))
     | .hs id gen sz off len ex=>match h[id]? with
      | some (.arr sz' lk es)=>match Nat.beq es.length gen&&Nat.beq sz' sz&&Nat.ble (off+len) es.length with
       | false=>none
       | true=>match ex with
        | true=>some (Av h (siz T e) ((es.drop off).take len++xs))
        | false=>match Nat.beq off 0&&(Nat.beq len es.length||(!lk&&Nat.blt es.length (len+xs.length))) with
         | true=>some (.hs id (len+xs.length) sz 0 (len+xs.length) false,h.set id (.arr sz lk (es.take len++xs)))
         | false=>match !lk&&Nat.ble (off+len+xs.length) es.length with
          | true=>some (.hs id gen sz off (len+xs.length) false,h.set id (.arr sz lk (es.take (off+len)++xs++es.drop (off+len+xs.length))))
          | false=>none
      | _=>none
     | _=>none
  | _,_=>none
 | _=>none
def Ca (d:Nat) (x:Option AV):Option Int:=match x with
 | none=>some d
 | some v=>intOf v
def I2 (b:Nat):Option AV→Bool
 | none=>true
 | some m=>match intOf m with
  | some m=>decide (m=b)
  | none=>false
def F8 (T:Ty) (t:TypeId) (x:AV) (lo hi mx:Option AV):Option AV:=
 match mx.isSome&&hi.isNone with
 | true=>none
 | false=>match und T t,x with
  | some .string,.str s=>match mx,(Ca s.length hi).bind (FA · s.length),Ca 0 lo with
   | none,some b,some l=>(FA l b).map fun a=> .str ((s.drop a).take (b - a))
   | _,_,_=>none
  | some (.slice e),.AI=>match (T e).isSome,Ca 0 lo,Ca 0 hi,Ca 0 mx with
   | true,some 0,some 0,some 0=>some .AI
   | _,_,_,_=>none
  | some (.slice e),.sl sz ex es=>match Nat.beq sz (siz T e)&&Nat.blt 0 (siz T e),(Ca es.length hi).bind (FA · es.length),Ca 0 lo with
   | true,some b,some l=>match FA l b,I2 b mx with
    | some a,true=>some (.sl sz (mx.isSome||(ex&&Nat.beq b es.length)) ((es.drop a).take (b - a)))
    | _,_=>none
   | _,_,_=>none
  | some (.slice e),.hs id gen sz off len ex=>match Nat.beq sz (siz T e)&&Nat.blt 0 (siz T e),(Ca len hi).bind (FA · len),Ca 0 lo with
   | true,some b,some l=>match FA l b,I2 b mx&&(mx.isSome || !ex||Nat.beq b len) with
    | some a,true=>some (.hs id gen sz (off+a) (b - a) (mx.isSome||ex))
    | _,_=>none
   | _,_,_=>none
  | _,_=>none
def Fw (T:Ty) (src dst:TypeId) (x:AV) (h:AE):Option (AV×AE):=
 match und T src,und T dst,x with
 | some _,some (.int k),.int _ n=>some (.int k (wr k n),h)
 | some _,some .string,.str s=>some (.str s,h)
 | some .string,some (.slice e),.str s=>match und T e with
  | some (.int .u8)=>some (Av h 1 (CZ s))
  | _=>none
 | _,_,_=>none
def D7 (d:Option TypeDesc) (x y:AV):Option Bool:=
 match d,x,y with
 | some .string,.str a,.str b=>some (a == b)
 | some .bool,.bool a,.bool b=>some (a == b)
 | some (.int _),.int k a,.int k' b=>match decide (k=k') with
  | true=>some (a == b)
  | false=>none
 | _,_,_=>none
def Fx (d:Option TypeDesc) (k:AV):List (AV×AV)→Option (Option AV)
 | []=>some none
 | (k',v)::r=>match D7 d k k' with
  | some true=>some (some v)
  | some false=>Fx d k r
  | none=>none
def Jy (d:Option TypeDesc) (k v:AV):List (AV×AV)→List (AV×AV)
 | []=>[(k,v)]
 | (k',v')::r=>match D7 d k k' with
  | some true=>(k,v)::r
  | _=>(k',v')::Jy d k v r
def GC (T:Ty) (t:TypeId) (m k:AV) (ok:Bool) (h:AE):Option AV:=
 match und T t with
 | some (.map kt e)=>
  match (match m with | .FW=>some [] | .hm id=>(match h[id]? with | some (.mp es)=>some es | _=>none) | _=>none) with
  | none=>none
  | some es=>match (match D7 (und T kt) k k with | some _=>Fx (und T kt) k es | none=>none),zeroV T e with
   | some r,some z=>match ok with
    | true=>some (.tup [r.getD z,.bool r.isSome])
    | false=>some (r.getD z)
   | _,_=>none
 | _=>none
def J3 (T:Ty) (t:TypeId) (m k v:AV) (h:AE):Option AE:=
 match und T t,m with
 | some (.map kt _),.hm id=>match h[id]? with
  | some (.mp es)=>match (match D7 (und T kt) k k with | some _=>Fx (und T kt) k es | none=>none) with
   | some _=>some (h.set id (.mp (Jy (und T kt) k v es)))
   | none=>none
  | _=>none
 | _,_=>none
abbrev CX:Nat:=10000000
def Ax:List AV→AE→Option (List AV×AE)
 | [],h=>some ([],h)
 | v::r,h=>match (match v.AD with | true=>some (v,h) | false=>snap CX v h) with
  | some (v',h')=>match Ax r h' with
   | some (r',h'')=>some (v'::r',h'')
   | none=>none
  | none=>none
def posOf (ids:List Nat) (id:Nat):Option Nat:=match ids with
 | []=>none
 | i::r=>match Nat.beq i id with
  | true=>some 0
  | false=>match posOf r id with
   | some k=>some (k+1)
   | none=>none
def L8 (ids:List Nat) (id:Nat):List Nat:=match posOf ids id with
 | some _=>ids
 | none=>ids++[id]
def RY (ids:List Nat) (v:AV):List Nat:=match v with
 | .hp id _=>L8 ids id
 | .ep id .. => L8 ids id
 | .hs id .. => L8 ids id
 | .hm id=>L8 ids id
 | _=>ids
def topA (ids:List Nat) (v:AV):List Nat:=match v with
 | .agg cs=>cs.foldl RY ids
 | v=>RY ids v
def LJ (v:AV):List Nat:=match v with
 | .tup vs=>vs.foldl topA []
 | v=>topA [] v
def E4 (base:Nat) (ids:List Nat) (v:AV):Option AV:=match v with
 | .hp id off=>(posOf ids id).map fun k=> .hp (base+k) off
 | .ep id g s i k=>(posOf ids id).map fun j=> .ep (base+j) g s i k
 | .hs id g s o l e=>(posOf ids id).map fun k=> .hs (base+k) g s o l e
 | .hm id=>(posOf ids id).map fun k=> .hm (base+k)
 | v=>match v.AD with
  | true=>some v
  | false=>none
def GD (base:Nat) (ids:List Nat):List AV→Option (List AV)
 | []=>some []
 | v::r=>match E4 base ids v,GD base ids r with
  | some a,some b=>some (a::b)
  | _,_=>none
def Ik (base:Nat) (ids:List Nat) (v:AV):Option AV:=match v with
 | .agg cs=>(GD base ids cs).map .agg
 | v=>E4 base ids v
def I3 (base:Nat) (ids:List Nat):List AV→Option (List AV)
 | []=>some []
 | v::r=>match Ik base ids v,I3 base ids r with
  | some a,some b=>some (a::b)
  | _,_=>none
def F9 (base:Nat) (ids:List Nat) (v:AV):Option AV:=match v with
 | .tup vs=>(I3 base ids vs).map .tup
 | v=>Ik base ids v
def Blk.AD:Blk→Bool
 | .var _ cs=>AG cs
 | .arr _ _ es=>es.all AG
 | .mp es=>es.all fun p=>p.1.AD&&p.2.AD
 | .hole=>false
def settle:List Nat→AE→Option AE
 | [],h=>some h
 | id::r,h=>match h[id]? with
  | some (.var _ cs)=>match AG cs with
   | true=>settle r h
   | false=>match FZ CX cs h with
    | some (cs',h')=>match h'[id]? with
     | some (.var lk _)=>settle r (h'.set id (.var lk cs'))
     | _=>none
    | none=>none
  | some (.arr sz0 _ es)=>match es.all AG with
   | true=>settle r h
   | false=>match Fe CX es h with
    | some (es',h')=>match h'[id]? with
     | some (.arr sz lk es0)=>match Nat.beq es0.length es'.length&&Nat.beq sz sz0 with
      | true=>settle r (h'.set id (.arr sz lk es'))
      | false=>none
     | _=>none
    | none=>none
  | _=>settle r h
def C6 (h:AE):List Nat→Option (List Blk)
 | []=>some []
 | id::r=>match h[id]?,C6 h r with
  | some b,some bs=>match b.AD with
   | true=>some (b::bs)
   | false=>none
  | _,_=>none
def distinct:List Nat→Bool
 | []=>true
 | i::r => !(r.elem i)&&distinct r
def Bw (keep:Bool) (hc:AE) (v:AV) (h:AE):Option (AV×AE):=
 match keep with
 | true=>match settle (LJ v) h with
  | none=>none
  | some h1=>match distinct (LJ v),F9 hc.length (LJ v) v,C6 h1 (LJ v) with
   | true,some v',some bs=>some (v',hc++bs)
   | _,_,_=>none
 | false=>match (match v.AD with | true=>some (v,h) | false=>snap CX v h) with
  | some (v',_)=>match v'.AD with
   | true=>some (v',hc)
   | false=>none
  | none=>none
def AK (M:Par) (C:CH) (f:FuncId) (args:List AV) (h:AE):Option (CR×AE):=
 match (M.mode f).fresh with
 | false=>C f args h
 | true=>match Ax args h with
  | none=>none
  | some (args',h')=>match args'.all AV.AD with
   | false=>none
   | true=>match C f args' [] with
    | some (.ret v,hr)=>match Bw (M.mode f).keepTop h' v hr with
     | some (v',h'')=>some (.ret v',h'')
     | none=>none
    | some (.pan v,_)=>match v.AD with
     | true=>some (.pan v,h')
     | false=>none
    | none=>none
inductive OR where
 | val (v:AV) (h:AE)
 | pan (v:AV) (h:AE)
 deriving Inhabited
def OR.ofV (h:AE):Option AV→Option OR
 | some v=>some (.val v h)
 | none=>none
def OR.DQ:Option (AV×AE)→Option OR
 | some (v,h)=>some (.val v h)
 | none=>none
def OR.ofC:Option (CR×AE)→Option OR
 | some (.ret v,h)=>some (.val v h)
 | some (.pan v,h)=>some (.pan v h)
 | none=>none
def RZ:List AV→Option AV
 | [.int k x,.int _ y]=>some (.int k (if y > x then y else x))
 | _=>none
def Ra:List AV→Option AV
 | [.int k x,.int _ y]=>some (.int k (if y<x then y else x))
 | _=>none
def HM:TypeDesc→Option Bool
 | .int _=>some true
 | .string=>some false
 | .slice _=>some false
 | _=>none
def Ad (T:Ty) (b:Builtin) (ts:List TypeId) (args:List AV) (h:AE):Option OR:=
 match b,ts,args with
 | .append,t::u::_,[s,x]=>match und T u with
  | some d=>match HM d with
   | some z=>OR.DQ (L7 T t z s x h)
   | none=>none
  | none=>none
 | .cap,t::_,[x]=>match und T t,x with
  | some (.slice _),.AI=>some (.val (.int .i64 0) h)
  | some (.slice _),.sl _ true es=>some (.val (.int .i64 es.length) h)
  | some (.slice _),.hs _ _ _ _ l true=>some (.val (.int .i64 l) h)
  | _,_=>none
 | .len,t::_,[x]=>match und T t,x with
  | some .string,.str s=>some (.val (.int .i64 s.length) h)
  | some (.slice _),.AI=>some (.val (.int .i64 0) h)
  | some (.slice _),.sl _ _ es=>some (.val (.int .i64 es.length) h)
  | some (.slice _),.hs _ _ _ _ l _=>some (.val (.int .i64 l) h)
  | some (.map _ _),.FW=>some (.val (.int .i64 0) h)
  | some (.map _ _),.hm id=>match h[id]? with
   | some (.mp es)=>some (.val (.int .i64 es.length) h)
   | _=>none
  | some (.array n _),_=>some (.val (.int .i64 n) h)
  | _,_=>none
 | .max,_,args=>OR.ofV h (RZ args)
 | .min,_,args=>OR.ofV h (Ra args)
 | _,_,_=>none
def Fy (t:Tm) (x:Operand) (h:AE):Option OR:=OR.ofV h (ev t x)
def Ez (t:Tm) (c a b:Operand) (h:AE):Option OR:=match ev t c with
 | some (.bool true)=>OR.ofV h (ev t a)
 | some (.bool false)=>OR.ofV h (ev t b)
 | _=>none
def D9 (T:Ty) (e:TypeId) (h:AE):Option OR:=match DU T e with
 | some cs=>some (.val (.hp h.length 0) (h++[.var false cs]))
 | none=>none
def Gn (t:Tm) (x:Operand) (h:AE):Option OR:=match (ev t x).bind AV.cells with
 | some cs=>some (.val (.hp h.length 0) (h++[.var false cs]))
 | none=>none
def D1 (T:Ty) (t:Tm) (ty:TypeId) (ps:Array (Nat×Operand)) (h:AE):Option OR:=match evs t (ps.toList.map (·.2)) with
 | some vs=>OR.ofV h (C5 T ty (DE ps.toList vs))
 | none=>none
def A4 (M:Par) (fid:Nat) (t:Tm) (ty:TypeId) (n:Nat) (ps:Array (Nat×Operand)) (h:AE):Option OR:=match evs t (ps.toList.map (·.2)) with
 | some vs=>OR.DQ (Ao M.ty (M.mutLit fid) ty n (DE ps.toList vs) h)
 | none=>none
def El (T:Ty) (t:Tm) (ty:TypeId) (a:Operand) (h:AE):Option OR:=match ev t a with
 | some p=>OR.ofV h (Bt T h ty p)
 | none=>none
def EA (T:Ty) (t:Tm) (ty:TypeId) (a x:Operand) (h:AE):Option OR:=match ev t a,ev t x with
 | some p,some v=>match CL T h ty p v with
  | some h'=>some (.val (.tup []) h')
  | none=>none
 | _,_=>none
def Gp (t:Tm) (x:Operand) (h:AE):Option OR:=match ev t x with
 | some (.ro cs)=>some (.val (.ro cs) h)
 | some (.hp i o)=>some (.val (.hp i o) h)
 | some (.ep a b c d e)=>some (.val (.ep a b c d e) h)
 | some (.fn f a c)=>some (.val (.fn f a c) h)
 | _=>none
def Gq (T:Ty) (t:Tm) (op:BinOp) (ty:TypeId) (x y:Operand) (h:AE):Option OR:=match ev t x,ev t y with
 | some a,some b=>OR.ofV h (Gm T op ty a b)
 | _,_=>none
def xUn (t:Tm) (op:UnOp) (x:Operand) (h:AE):Option OR:=match ev t x with
 | some a=>OR.ofV h (unA op a)
 | none=>none
def Ej (T:Ty) (t:Tm) (src dst:TypeId) (x:Operand) (h:AE):Option OR:=match ev t x with
 | some a=>OR.DQ (Fw T src dst a h)
 | none=>none
def D2 (T:Ty) (t:Tm) (ty:TypeId) (x:Operand) (h:AE):Option OR:=match ev t x,und T ty with
 | some _,some (.interface _)=>none
 | some a,some _=>some (.val (.iface ty a) h)
 | _,_=>none
def E0 (t:Tm) (f:FuncId) (first cap:Array Operand) (h:AE):Option OR:=match evs t first.toList,evs t cap.toList with
 | some us,some vs=>some (.val (.fn f us vs) h)
 | _,_=>none
def BF (T:Ty) (t:Tm) (ty:TypeId) (l c:Operand) (h:AE):Option OR:=match ev t l,ev t c with
 | some a,some b=>OR.DQ (Ff T ty a b h)
 | _,_=>none
def C7 (T:Ty) (t:Tm) (ty:TypeId) (x:Operand) (lo hi mx:Option Operand) (h:AE):Option OR:=match ev t x,evs t (lo.toList++hi.toList++mx.toList) with
 | some a,some _=>OR.ofV h (F8 T ty a (lo.bind (ev t)) (hi.bind (ev t)) (mx.bind (ev t)))
 | _,_=>none
def BG (T:Ty) (t:Tm) (ty:TypeId) (x:Operand) (f:Nat) (h:AE):Option OR:=match ev t x with
 | some a=>OR.ofV h (AX T ty a f)
 | none=>none
def D3 (T:Ty) (t:Tm) (ty:TypeId) (x:Operand) (f:Nat) (h:AE):Option OR:=match ev t x with
 | some a=>OR.ofV h (OH T ty a f)
 | none=>none
def BH (T:Ty) (t:Tm) (ty:TypeId) (x i:Operand) (h:AE):Option OR:=match ev t x,ev t i with
 | some a,some b=>OR.ofV h (BJ T ty a b)
 | _,_=>none
def D4 (T:Ty) (t:Tm) (ty:TypeId) (x i:Operand) (h:AE):Option OR:=match ev t x,ev t i with
 | some a,some b=>OR.ofV h (L6 T ty a b)
 | _,_=>none
def Cb (T:Ty) (t:Tm) (ty:TypeId) (x i:Operand) (ok:Bool) (h:AE):Option OR:=match ev t x,ev t i with
 | some a,some b=>OR.ofV h (GC T ty a b ok h)
 | _,_=>none
def CV (T:Ty) (t:Tm) (ty:TypeId) (m k x:Operand) (h:AE):Option OR:=match ev t m,ev t k,ev t x with
 | some a,some b,some c=>match J3 T ty a b c h with
  | some h'=>some (.val (.tup []) h')
  | none=>none
 | _,_,_=>none
def Bx (t:Tm) (x:Operand) (i:Nat) (h:AE):Option OR:=match ev t x with
 | some (.tup vs)=>OR.ofV h vs[i]?
 | _=>none
def BE (T:Ty) (t:Tm) (b:Builtin) (args:Array Operand) (ts:Array TypeId) (h:AE):Option OR:=match evs t args.toList with
 | some vs=>Ad T b ts.toList vs h
 | none=>none
def EK (M:Par) (C:CH) (t:Tm) (f:Operand) (args:Array Operand) (h:AE):Option OR:=match ev t f,evs t args.toList with
 | some (.fn g fs cap),some vs=>match M.prim g with
  | some p=>OR.ofV h (p (fs++vs++cap))
  | none=>OR.ofC (AK M C g (fs++vs++cap) h)
 | _,_=>none
def EB (t:Tm) (x:Operand) (h:AE):Option OR:=match ev t x with
 | some (.iface ty v)=>some (.pan (.iface ty v) h)
 | _=>none
def Ap (M:Par) (fid:Nat) (C:CH) (t:Tm) (o:Op) (h:AE):Option OR:=
 match o with
 | .move x=>Fy t x h
 | .assign x=>Fy t x h
 | .pick c a b=>Ez t c a b h
 | .alloc e=>D9 M.ty e h
 | .box _ x=>Gn t x h
 | .build ty ps=>D1 M.ty t ty ps h
 | .buildSlice ty n ps=>A4 M fid t ty n ps h
 | .load ty a=>El M.ty t ty a h
 | .store ty a x=>EA M.ty t ty a x h
 | .nilCheck x=>Gp t x h
 | .binOp op ty x y _=>Gq M.ty t op ty x y h
 | .unOp op _ x=>xUn t op x h
 | .convert src dst x=>Ej M.ty t src dst x h
 | .makeInterface ty x=>D2 M.ty t ty x h
 | .makeFunc (.func f) first cap=>E0 t f first cap h
 | .makeMap _ none=>some (.val (.hm h.length) (h++[.mp []]))
 | .makeSlice ty l c=>BF M.ty t ty l c h
 | .slice ty x lo hi mx=>C7 M.ty t ty x lo hi mx h
 | .fieldAddr ty x f=>BG M.ty t ty x f h
 | .field ty x f=>D3 M.ty t ty x f h
 | .indexAddr ty x i=>BH M.ty t ty x i h
 | .index ty x i=>D4 M.ty t ty x i h
 | .lookup ty x i ok=>Cb M.ty t ty x i ok h
 | .mapUpdate ty m k x=>CV M.ty t ty m k x h
 | .insert ty m k x=>CV M.ty t ty m k x h
 | .extract x i=>Bx t x i h
 | .call { callee:=.builtin b,args,argTypes }=>BE M.ty t b args argTypes h
 | .call { callee:=.value f,args,.. }=>EK M C t f args h
 | .panic x=>EB t x h
 | _=>none
inductive Kd where
 | st
 | ld (id:Nat)
 | ch (Ck:List Nat)
 deriving Inhabited
def Ek:AV→Option Nat
 | .hp id _=>some id
 | .ep id .. => some id
 | .hs id .. => some id
 | .hm id=>some id
 | _=>none
def C8 (v:Option AV):Kd:=match v.bind Ek with
 | some id=> .ld id
 | none=> .st
def Hf:Nat→AE→List Nat
 | _,[]=>[]
 | k,_::r=>k::Hf (k+1) r
def Ck:Nat→AE→AE→List Nat
 | k,[],s=>Hf k s
 | k,_::r,[]=>k::Ck (k+1) r []
 | k,b::r,c::s=>match Blk.beq b c with
  | true=>Ck (k+1) r s
  | false=>k::Ck (k+1) r s
def EX (M:Par) (t:Tm) (o:Op) (h h':AE):Kd:=
 match o with
 | .load _ a=>C8 (ev t a)
 | .lookup _ m _ _=>C8 (ev t m)
 | .call { callee:=.builtin .len,args,.. }=>(match ((args[0]?).bind (ev t)) with | some (.hm id)=> .ld id | _=> .st)
 | .call { callee:=.builtin .max,.. }=> .st
 | .call { callee:=.builtin .min,.. }=> .st
 | .call { callee:=.value f,args,.. }=>(match ev t f,evs t args.toList with
  | some (.fn g fs cap),some vs=>(match (M.prim g).isSome||((M.mode g).fresh && !(M.mode g).keepTop&&(fs++vs++cap).all AV.AD) with
   | true=> .st
   | false=> .ch (Ck 0 h h'))
  | _,_=> .ch (Ck 0 h h'))
 | .alloc _=> .ch [h.length]
 | .box .. => .ch [h.length]
 | .buildSlice .. => (match Nat.beq h.length h'.length with | true=> .st | false=> .ch [h.length])
 | .makeMap .. => .ch [h.length]
 | .makeSlice .. => .ch [h.length]
 | .convert .. => (match Nat.beq h.length h'.length with | true=> .st | false=> .ch [h.length])
 | .store .. => .ch (Ck 0 h h')
 | .mapUpdate .. => .ch (Ck 0 h h')
 | .insert .. => .ch (Ck 0 h h')
 | .call _=> .ch (Ck 0 h h')
 | .panic _=> .ch (Ck 0 h h')
 | _=> .st
def Bb (ops:Array Oper) (t:Tm) (o:Oper):Option Bool:=
 match o.guard with
 | none=>some true
 | some (j,want)=>match (ops[j]?).bind (·.dst) with
  | none=>none
  | some d=>match t.get d with
   | .bool b=>some (b == want)
   | .tup []=>some false
   | _=>none
def E6 (N:Nat) (t:Tm) (dst:Option Nat) (v:AV):Option Tm:=
 match dst with
 | none=>some t
 | some d=>match Nat.blt d N with
  | true=>some ((d,v)::t)
  | false=>none
inductive RO where
 | done (t:Tm) (h:AE) (ks:List Kd)
 | pan (v:AV) (h:AE)
 deriving Inhabited
def BP (M:Par) (fid N:Nat) (C:CH) (ops:Array Oper):List Oper→Tm→AE→List Kd→Option RO
 | [],t,h,ks=>some (.done t h ks)
 | o::r,t,h,ks=>match Bb ops t o with
  | none=>none
  | some false=>match E6 N t o.dst (.tup []) with
   | some t'=>BP M fid N C ops r t' h (.st::ks)
   | none=>none
  | some true=>match Ap M fid C t o.op h with
   | some (.val v h')=>match E6 N t o.dst v with
    | some t'=>BP M fid N C ops r t' h' (EX M t o.op h h'::ks)
    | none=>none
   | some (.pan v h')=>some (.pan v h')
   | none=>none
def looks (ops:Array Oper) (o:Oper):List Nat:=o.looksAt ops
def isDst (o:Oper) (l:List Nat):Bool:=match o.dst with
 | some d=>l.elem d
 | none=>false
def PT (a b:Oper):Bool:=match a.dst,b.dst with
 | some d,some e=>Nat.beq d e
 | _,_=>false
def Bl (a b:Kd):Bool:=match a,b with
 | .ch _,.ch _=>true
 | .ch m,.ld id=>m.elem id
 | .ld id,.ch m=>m.elem id
 | _,_=>false
def L9 (ops:Array Oper):Bool:=
 (List.range ops.size).all fun j=>(List.range j).all fun i=>
   match ops[i]?,ops[j]? with
   | some a,some b=>((Region.before ops).getD j 0).testBit i || !(isDst a (looks ops b)||isDst b (looks ops a)||PT a b)
   | _,_=>false
def MA (ops:Array Oper):Bool:=
 (List.range ops.size).all fun i=>match ops[i]? with
   | some o=>o.after.toList.all fun e => !(Region.binds .any e)||Nat.blt e.on i
   | none=>true
def E9 (bef:Array Nat):List (Nat×Kd)→Bool
 | []=>true
 | (i,x)::r=>(r.all fun p => !(Bl x p.2)||(bef.getD p.1 0).testBit i)&&E9 bef r
def isSt:Kd→Bool
 | .st=>true
 | _=>false
def CM:Nat→List Kd→List (Nat×Kd)
 | _,[]=>[]
 | k,.st::r=>CM (k+1) r
 | k,x::r=>(k,x)::CM (k+1) r
def HN (ops:Array Oper) (ks:List Kd):Bool:=E9 (Region.before ops) (CM 0 ks)
def okC:Code→Bool
 | .region _ ops d => !d||(MA ops&&L9 ops)
 | .seq a b=>okC a&&okC b
 | .cond _ a b=>okC a&&okC b
 | .block _ c=>okC c
 | .loop c=>okC c
 | _=>true
inductive Ex where
 | nrm
 | ext (id:Nat)
 | ret
 | pan (v:AV)
 deriving Inhabited
abbrev St:=Tm×AE
def iter:Nat→(St→Option (Ex×St))→St→Option (Ex×St)
 | 0,_,_=>none
 | n+1,f,s=>match f s with
  | some (.nrm,s')=>iter n f s'
  | r=>r
def BT (M:Par) (fid N:Nat) (C:CH) (id:Nat) (ops:Array Oper) (draw:Bool) (s:St):Option (Ex×St):=
 match BP M fid N C ops ops.toList s.1 s.2 [] with
 | some (.done t h ks)=>match (match draw with | true=>HN ops ks.reverse | false=>true) with
  | true=>match M.keep fid id with
   | some l=>some (.nrm,(t.only l,h))
   | none=>some (.nrm,(t,h))
  | false=>none
 | some (.pan v h)=>match draw with
  | true=>none
  | false=>some (.pan v,([],h))
 | none=>none
def codeF (M:Par) (fid N:Nat) (C:CH) (L:Nat):Code→St→Option (Ex×St)
 | .skip,s=>some (.nrm,s)
 | .region id ops d,s=>BT M fid N C id ops d s
 | .seq a b,s=>match codeF M fid N C L a s with
  | some (.nrm,s')=>codeF M fid N C L b s'
  | r=>r
 | .cond c a b,s=>match ev s.1 c with
  | some (.bool true)=>codeF M fid N C L a s
  | some (.bool false)=>codeF M fid N C L b s
  | _=>none
 | .block id c,s=>match codeF M fid N C L c s with
  | some (.ext j,s')=>match Nat.beq j id with
   | true=>some (.nrm,s')
   | false=>some (.ext j,s')
  | r=>r
 | .loop c,s=>iter L (codeF M fid N C L c) s
 | .exit id,s=>some (.ext id,s)
 | .ret,s=>some (.ret,s)
 | _,_=>none
def Cm (T:Ty) (t:Tm) (h:AE):List ResultVar→Option (List AV)
 | []=>some []
 | .tmp d::r=>(Cm T t h r).map (t.get d :: ·)
 | .cell a ty::r=>match Bt T h ty (t.get a),Cm T t h r with
  | some v,some vs=>some (v::vs)
  | _,_=>none
def B6 (T:Ty) (t:Tm) (h:AE) (rs:Array ResultVar):Option AV:=
 match Cm T t h rs.toList with
 | some [v]=>some v
 | some vs=>some (.tup vs)
 | none=>none
def finish (T:Ty) (fn:Func):Option (Ex×St)→Option (CR×AE)
 | some (.nrm,(t,h))=>(B6 T t h fn.results).map fun v=>(.ret v,h)
 | some (.ret,(t,h))=>(B6 T t h fn.results).map fun v=>(.ret v,h)
 | some (.pan v,(_,h))=>some (.pan v,h)
 | _=>none
def Jz (M:Par) (C:CH) (L:Nat) (f:FuncId) (args:List AV) (h:AE):Option (CR×AE):=
 match M.fn f with
 | none=>none
 | some fn=>match fn.body with
  | none=>none
  | some c=>match Nat.ble args.length fn.ntmps with
   | true=>finish M.ty fn (codeF M f fn.ntmps C L c (Tm.init 0 args,h))
   | false=>none
def C9 (M:Par):Nat→CH
 | 0=>fun _ _ _=>none
 | n+1=>fun f args h=>match M.eff f with
  | some e=>e args h
  | none=>Jz M (C9 M n) n f args h
end Go.Am
