/- Part 1. -/
import Derived.Orders
set_option linter.all false
namespace Go
def AW:=@List.getElem?_eq_getElem
def AN:=@Option.some.injEq
def Ae:=@List.getElem?_eq_some_iff
def BA:=@List.getElem?_append_left
def Ap:=@List.getElem_mem
def BT:=@List.getElem?_set_ne
def BU:=@Bool.and_eq_true
def E5:=@List.eq_nil_of_length_eq_zero
def Bk:=@Prod.mk.injEq
def ER:=@List.getElem?_set_self
def De:=@List.drop_eq_getElem_cons
def DC:=@List.take_of_length_le
def EL:=@List.getElem?_append_right
def C2:=@List.mem_of_getElem?
def Dx:=@Option.map_eq_some_iff
def E6:=@Array.getElem?_eq_getElem
def C3:=@List.drop_length
def Cd:=@List.mem_cons
def ES:=@Bool.false_eq_true
def D0:=@List.all_eq_true
def EM:=@List.append_assoc
def D8:=@List.length_cons
def D9:=@List.getElem_zip
def CZ:=@Nat.le_refl
def DD:=@Nat.le_trans
def Gy:=@Array.getD_eq_getD_getElem?
def FZ:=@List.length_append
def E0:=@Option.map_some
def Gd:=@Option.bind_eq_some_iff
def D1:=@Nat.zero_add
def GK:=@Nat.mul_le_mul_right
def I8:=@List.findIdx?_eq_some_iff_getElem
def FE:=@List.nil_append
def Fx:=@List.getElem?_map
def HJ:=@List.getElem?_cons_zero
def Fk:=@List.cons_append
def Fa:=@List.length_map
def Fy:=@List.length_set
def HK:=@Array.toArray_toList
def GQ:=@Option.getD_some
def GR:=@List.length_take
def Hh:=@Nat.lt_of_le_of_lt
def Hi:=@Nat.lt_of_lt_of_le
def HL:=@List.take_length
def H9:=@List.getElem?_drop
def F5:=@List.mem_map
def HM:=@Nat.le_max_left
def Hj:=@Nat.le_max_right
def IA:=@Bool.not_eq_true'
def Km:=@Array.getElem?_append_left
def Kn:=@Array.getElem?_eq_some_iff
def Ko:=@List.getD_eq_getElem?_getD
def I9:=@List.getElem_of_mem
def KI:=@List.drop_of_length_le
def Ge:=@Nat.succ_mul
def Kp:=@List.getElem?_take_of_lt
def IB:=@List.length_nil
def Kq:=@List.getElem?_cons_succ
def Hk:=@List.map_cons
def IX:=@List.append_nil
def JA:=@List.not_mem_nil
def KJ:=@Array.length_toList
def OA:=@Array.getElem?_setIfInBounds_ne
def IC:=@Bool.true_and
def IY:=@Bool.false_and
def HN:=@Nat.zero_le
def Mf:=@List.pairwise_iff_getElem
def Kr:=@List.length_pos_iff
def OB:=@Array.getElem?_setIfInBounds
def JB:=@List.drop_zero
def JI:=@List.mem_filter
def KL:=@Option.bind_some
def IZ:=@Nat.add_zero
def JJ:=@List.mem_range
def Mg:=@List.mem_iff_getElem?
def JK:=@Bool.false_or
def JL:=@List.all_cons
def Mh:=@List.mem_cons_of_mem
def Mi:=@List.findIdx?_isSome
def L2:=@List.flatten_cons
def Ks:=@List.mem_append
def Kt:=@Bool.eq_iff_iff
def JM:=@Nat.beq_refl
def OC:=@Array.getElem?_extract
def OD:=@Array.getElem?_modify
def Ku:=@Nat.mul_le_mul
def P6:=@Option.isSome_iff_exists
def L3:=@Bool.or_eq_true
def P7:=@List.elem_eq_true_of_mem
def KM:=@Nat.le_of_lt
def OE:=@Nat.pow_le_pow_right
def Kv:=@Nat.add_assoc
def OG:=@Array.getElem?_push
def Mj:=@Nat.min_le_right
def KO:=@Nat.add_mul
def S4:=@Array.getElem?_append_right
def P8:=@Nat.eq_of_beq_eq_true
def P9:=@List.getElem?_eq_none
def OH:=@List.size_toArray
def S5:=@List.mem_or_eq_of_mem_set
def Mk:=@List.forall_mem_cons
def Ml:=@List.set_append_left
def Li:=@List.ext_getElem
def PE:=@List.length_filterMap_le
def KU:=@Bool.not_true
def PF:=@List.length_replicate
def PG:=@Array.getElem?_mapIdx
def PH:=@List.contains_iff_mem
def Mm:=@List.foldl_cons
def Rj:=@List.findIdx?_eq_none_iff
def Mn:=@List.map_append
def PJ:=@Array.getElem?_map
def PL:=@List.mem_filterMap
def Lj:=@Int.ofNat_lt
def Lk:=@Nat.le_zero
end Go
namespace Go.Am
open Go
inductive AV where
 | undef
 | bool (b:Bool)
 | int (k:IntKind) (n:Int)
 | str (s:List UInt8)
 | ED
 | ro (cs:List AV)
 | hp (id off:Nat)
 | ep (id gen sz i k:Nat)
 | AH
 | sl (sz:Nat) (ex:Bool) (es:List (List AV))
 | hs (id gen sz off len:Nat) (ex:Bool)
 | Ga
 | hm (id:Nat)
 | fn (f:FuncId) (first cap:List AV)
 | Gc
 | iface (t:TypeId) (v:AV)
 | I7
 | agg (cs:List AV)
 | tup (vs:List AV)
 deriving Inhabited
inductive Blk where
 | var (lk:Bool) (cs:List AV)
 | arr (sz:Nat) (lk:Bool) (es:List (List AV))
 | mp (es:List (AV×AV))
 | hole
 deriving Inhabited
abbrev AF:=List Blk
abbrev Tm:=List (Nat×AV)
def Tm.get:Tm->Nat->AV
 | [],_=> .undef
 | (e,v)::r,d=>match Nat.beq e d with
  | true=>v
  | false=>Tm.get r d
def Tm.init:Nat->List AV->Tm
 | _,[]=>[]
 | k,v::r=>(k,v)::Tm.init (k+1) r
def Tm.only(t:Tm):List Nat->Tm
 | []=>[]
 | d::r=>(d,t.get d)::Tm.only t r
def AV.cells:AV->Option (List AV)
 | .undef=>none
 | .tup _=>none
 | .agg cs=>some cs
 | v=>some [v]
def AV.KW:AV->Bool
 | .undef=>false
 | .tup _=>false
 | .agg _=>false
 | _=>true
mutual
def AV.AA:AV->Bool
 | .hp .. => false
 | .ep .. => false
 | .hs .. => false
 | .hm .. => false
 | .agg cs=>AG cs
 | .tup vs=>AG vs
 | .fn _ fs cap=>AG fs&&AG cap
 | .iface _ v=>v.AA
 | _=>true
def AG:List AV->Bool
 | []=>true
 | c::cs=>c.AA&&AG cs
end
mutual
def AV.beq:AV->AV->Bool
 | .undef,.undef=>true
 | .bool a,.bool b=>a == b
 | .int k a,.int l b=>decide (k=l)&&decide (a=b)
 | .str a,.str b=>a == b
 | .ED,.ED=>true
 | .ro a,.ro b=>KG a b
 | .hp i o,.hp j p=>Nat.beq i j&&Nat.beq o p
 | .ep a b c d e,.ep a' b' c' d' e'=>Nat.beq a a'&&Nat.beq b b'&&Nat.beq c c'&&Nat.beq d d'&&Nat.beq e e'
 | .AH,.AH=>true
 | .sl a b c,.sl a' b' c'=>Nat.beq a a'&&b == b'&&Kw c c'
 | .hs a b c d e f,.hs a' b' c' d' e' f'=>Nat.beq a a'&&Nat.beq b b'&&Nat.beq c c'&&Nat.beq d d'&&Nat.beq e e'&&f == f'
 | .Ga,.Ga=>true
 | .hm i,.hm j=>Nat.beq i j
 | .fn f a c,.fn g b d=>Nat.beq f g&&KG a b&&KG c d
 | .Gc,.Gc=>true
 | .iface t v,.iface u w=>Nat.beq t u&&AV.beq v w
 | .I7,.I7=>true
 | .agg a,.agg b=>KG a b
 | .tup a,.tup b=>KG a b
 | _,_=>false
def KG:List AV->List AV->Bool
 | [],[]=>true
 | a::r,b::s=>AV.beq a b&&KG r s
 | _,_=>false
def Kw:List (List AV)->List (List AV)->Bool
 | [],[]=>true
 | a::r,b::s=>KG a b&&Kw r s
 | _,_=>false
end
def L4:List (AV×AV)->List (AV×AV)->Bool
 | [],[]=>true
 | a::r,b::s=>AV.beq a.1 b.1&&AV.beq a.2 b.2&&L4 r s
 | _,_=>false
def Blk.beq:Blk->Blk->Bool
 | .var l a,.var m b=>l == m&&KG a b
 | .arr s l a,.arr t m b=>Nat.beq s t&&l == m&&Kw a b
 | .mp a,.mp b=>L4 a b
 | .hole,.hole=>true
 | _,_=>false
def DE:Value->Option AV
 | .bool b=>some (.bool b)
 | .int k n=>some (.int k n)
 | .string s=>some (.str s.data.toList)
 | .pointer none=>some .ED
 | .slice none 0 0=>some .AH
 | .map none=>some .Ga
 | .nilFunc=>some .Gc
 | .nilIface=>some .I7
 | _=>none
def Ju:List Value->Option (List AV)
 | []=>some []
 | v::r=>match DE v,Ju r with
  | some a,some b=>some (a::b)
  | _,_=>none
def C4:Value->Option AV
 | .agg cs=>(Ju cs.toList).map .agg
 | v=>DE v
structure TyI where
 d:TypeDesc
 size:Nat
 bytes:Nat
 zero:Option (List AV)
 deriving Inhabited
abbrev Ty:=TypeId->Option TyI
inductive Tree(α:Type) where
 | AB
 | AD (k:Nat) (v:α) (l r:Tree α)
def Tree.find{α:Type}:Tree α->Nat->Option α
 | .AB,_=>none
 | .AD k v l r,x=>match Nat.beq x k with
  | true=>some v
  | false=>match Nat.blt x k with
   | true=>l.find x
   | false=>r.find x
def D2(h:AF):AV->Option (List AV)
 | .ro cs=>some cs
 | .hp id off=>match h[id]? with
  | some (.var _ cs)=>some (cs.drop off)
  | _=>none
 | .ep id gen sz i k=>match h[id]? with
  | some (.arr sz' _ es)=>match Nat.beq es.length gen&&Nat.beq sz' sz with
   | true=>(es[i]?).map (·.drop k)
   | false=>none
  | _=>none
 | _=>none
def OI(T:Ty)(t:TypeId)(cs:List AV):Option AV:=
 match T t with
 | some i=>match i.d with
  | .struct _=>match Nat.ble i.size cs.length with
   | true=>some (.agg (cs.take i.size))
   | false=>none
  | .array _ _=>match Nat.ble i.size cs.length with
   | true=>some (.agg (cs.take i.size))
   | false=>none
  | _=>cs.head?
 | none=>none
def CL(T:Ty)(h:AF)(t:TypeId)(p:AV):Option AV:=(D2 h p).bind (OI T t)
def Ay(old:List AV)(off:Nat)(new:List AV):List AV:=old.take off++new++old.drop (off+new.length)
def Cb(T:Ty)(h:AF)(t:TypeId)(p v:AV):Option AF:=
 match T t,v.cells with
 | some ti,some cs=>
  match Nat.beq cs.length ti.size with
  | true=>match p with
   | .hp id off=>match h[id]? with
    | some (.var false old)=>match Nat.ble (off+cs.length) old.length with
     | true=>some (h.set id (.var false (Ay old off cs)))
     | false=>none
    | _=>none
   | .ep id gen sz' i k=>match h[id]? with
    | some (.arr sz false es)=>match Nat.beq es.length gen&&Nat.beq sz sz',es[i]? with
     | true,some e=>match Nat.ble (k+cs.length) e.length with
      | true=>some (h.set id (.arr sz false (es.set i (Ay e k cs))))
      | false=>none
     | _,_=>none
    | _=>none
   | _=>none
  | false=>none
 | _,_=>none
def A7(h:AF):AV->Option (List (List AV))
 | .AH=>some []
 | .sl _ _ es=>some es
 | .hs id gen sz off len _=>match h[id]? with
  | some (.arr sz' _ es)=>match Nat.beq es.length gen&&Nat.beq sz' sz&&Nat.ble (off+len) es.length with
   | true=>some ((es.drop off).take len)
   | false=>none
  | _=>none
 | _=>none
def F6:AV->Option Nat
 | .AH=>some 0
 | .sl _ _ es=>some es.length
 | .hs _ _ _ _ len _=>some len
 | .str s=>some s.length
 | .Ga=>some 0
 | _=>none
mutual
def snap:Nat->AV->AF->Option (AV×AF)
 | 0,_,_=>none
 | n+1,v,h=>match v with
  | .hp id off=>match h[id]? with
   | some (.var _ cs)=>match GS n cs h with
    | some (cs',h')=>match h'[id]? with
     | some (.var _ _)=>some (.ro (cs'.drop off),h'.set id (.var true cs'))
     | _=>none
    | none=>none
   | _=>none
  | .ep id gen sz' i k=>match h[id]? with
   | some (.arr sz _ es)=>match Nat.beq es.length gen&&Nat.beq sz sz'&&es.all AG with
    | true=>(es[i]?).map fun e=>(.ro (e.drop k),h.set id (.arr sz true es))
    | false=>none
   | _=>none
  | .hs id gen sz off len ex=>match h[id]? with
   | some (.arr sz' _ es)=>match Nat.beq es.length gen&&Nat.beq sz' sz&&Nat.ble (off+len) es.length&&es.all AG with
    | true=>some (.sl sz ex ((es.drop off).take len),h.set id (.arr sz' true es))
    | false=>match Nat.beq es.length gen&&Nat.beq sz' sz&&Nat.ble (off+len) es.length with
     | true=>match GU n es h with
      | some (es',h')=>match h'[id]? with
       | some (.arr sz2 _ es2)=>match Nat.beq sz2 sz'&&Nat.beq es2.length es.length with
        | true=>some (.sl sz ex ((es'.drop off).take len),h'.set id (.arr sz' true es'))
        | false=>none
       | _=>none
      | none=>none
     | false=>none
   | _=>none
  | .hm _=>none
  | .agg cs=>match AG cs with
   | true=>some (.agg cs,h)
   | false=>(GS n cs h).map fun(cs',h')=>(.agg cs',h')
  | .tup cs=>match AG cs with
   | true=>some (.tup cs,h)
   | false=>(GS n cs h).map fun(cs',h')=>(.tup cs',h')
  | .fn f fs cs=>match AG fs&&AG cs with
   | true=>some (.fn f fs cs,h)
   | false=>match GS n fs h with
    | some (fs',h')=>(GS n cs h').map fun(cs',h'')=>(.fn f fs' cs',h'')
    | none=>none
  | .iface t v=>(snap n v h).map fun(v',h')=>(.iface t v',h')
  | v=>some (v,h)
def GS:Nat->List AV->AF->Option (List AV×AF)
 | 0,_,_=>none
 | _+1,[],h=>some ([],h)
 | n+1,c::cs,h=>match snap n c h with
  | some (c',h')=>match GS n cs h' with
   | some (cs',h'')=>some (c'::cs',h'')
   | none=>none
  | none=>none
def GU:Nat->List (List AV)->AF->Option (List (List AV)×AF)
 | 0,_,_=>none
 | _+1,[],h=>some ([],h)
 | n+1,c::cs,h=>match GS n c h with
  | some (c',h')=>match GU n cs h' with
   | some (cs',h'')=>some (c'::cs',h'')
   | none=>none
  | none=>none
end
inductive CR where
 | ret (v:AV)
 | pan (v:AV)
 deriving Inhabited
abbrev CH:=FuncId->List AV->AF->Option (CR×AF)
structure Mode where
 fresh:Bool:=false
 keepTop:Bool:=false
 deriving Inhabited
structure Par where
 ty:Ty
 fn:FuncId->Option Func
 mode:FuncId->Mode
 keep:FuncId->Nat->Option (List Nat)
 prim:FuncId->Option (List AV->Option AV):=fun _=>none
 mutLit:FuncId->Bool:=fun _=>false
 eff:FuncId->Option (List AV->AF->Option (CR×AF)):=fun _=>none
 eqs:TypeId->Bool:=fun _=>false
def ev(t:Tm):Operand->Option AV
 | .tmp d=>some (t.get d)
 | .const v=>C4 v
 | .global _=>none
 | .func f=>some (.fn f [] [])
def evs(t:Tm):List Operand->Option (List AV)
 | []=>some []
 | x::r=>match ev t x,evs t r with
  | some a,some b=>some (a::b)
  | _,_=>none
def und(T:Ty)(t:TypeId):Option TypeDesc:=match T t with
 | some i=>some i.d
 | none=>none
def siz(T:Ty)(t:TypeId):Nat:=match T t with
 | some i=>i.size
 | none=>0
def byt(T:Ty)(t:TypeId):Nat:=match T t with
 | some i=>i.bytes
 | none=>0
def Ei(T:Ty)(t:TypeId):Option (List AV):=match T t with
 | some i=>match i.zero with
  | some z=>match Nat.beq z.length i.size with
   | true=>some z
   | false=>none
  | none=>none
 | none=>none
def cellOf(z:List AV):Option AV:=match z with
 | [c]=>match c.KW with
  | true=>some c
  | false=>none
 | _=>none
def QA(d:TypeDesc)(z:List AV):Option AV:=match d with
 | .struct _=>some (.agg z)
 | .array _ _=>some (.agg z)
 | _=>cellOf z
def zeroV(T:Ty)(t:TypeId):Option AV:=match T t with
 | some i=>i.zero.bind (QA i.d)
 | none=>none
def MN(T:Ty)(s:TypeId)(f:Nat):Option Field:=
 match T s with
 | some i=>match i.d with
  | .struct fs=>fs[f]?
  | _=>none
 | none=>none
def Kx:IntKind->Int
 | .i8=>256
 | .u8=>256
 | .i16=>65536
 | .u16=>65536
 | .i32=>4294967296
 | .u32=>4294967296
 | .i64=>18446744073709551616
 | .u64=>18446744073709551616
def Ia:IntKind->Int
 | .i8=>128
 | .i16=>32768
 | .i32=>2147483648
 | .i64=>9223372036854775808
 | .u8=>256
 | .u16=>65536
 | .u32=>4294967296
 | .u64=>18446744073709551616
def wr(k:IntKind)(n:Int):Int:=
 match decide (0<=n/\n<Ia k)with
 | true=>n
 | false=>match decide (n % Kx k<Ia k)with
  | true=>n % Kx k
  | false=>n % Kx k - Kx k
def Dy(op:BinOp)(k:IntKind)(x y:Int):Option AV:=
 match op with
 | .add=>some (.int k (wr k (x+y)))
 | .sub=>some (.int k (wr k (x - y)))
 | .mul=>some (.int k (wr k (x * y)))
 | .quo=>match decide (y=0)with
  | true=>none
  | false=>some (.int k (wr k (x.tdiv y)))
 | .rem=>match decide (y=0)with
  | true=>none
  | false=>some (.int k (x.tmod y))
 | .and=>some (.int k (wr k (BitVec.ofInt k.bits x &&& BitVec.ofInt k.bits y).toNat))
 | .or=>some (.int k (wr k (BitVec.ofInt k.bits x ||| BitVec.ofInt k.bits y).toNat))
 | .xor=>some (.int k (wr k (BitVec.ofInt k.bits x ^^^ BitVec.ofInt k.bits y).toNat))
 | .andNot=>some (.int k (wr k (BitVec.ofInt k.bits x &&& ~~~(BitVec.ofInt k.bits y)).toNat))
 | .eql=>some (.bool (x == y))
 | .neq=>some (.bool (x != y))
 | .lss=>some (.bool (decide (x<y)))
 | .leq=>some (.bool (decide (x<=y)))
 | .gtr=>some (.bool (decide (x > y)))
 | .geq=>some (.bool (decide (x ≥ y)))
 | _=>none
def Hl(op:BinOp)(k:IntKind)(x y:Int):Option AV:=
 match decide (y<0)with
 | true=>none
 | false=>match op with
  | .shl=>some (.int k (wr k (x * ((2 ^ (min y.toNat k.bits):Nat):Int))))
  | .shr=>some (.int k (x.fdiv ((2 ^ (min y.toNat k.bits):Nat):Int)))
  | _=>none
def D3(op:BinOp)(x y:List UInt8):Option AV:=
 match op with
 | .add=>match Nat.ble (x.length+y.length) 4611686018427387904 with
  | true=>some (.str (x++y))
  | false=>none
 | .eql=>some (.bool (x == y))
 | .neq=>some (.bool !(x == y))
 | .lss=>some (.bool (Op.bytesLess x y))
 | .leq=>some (.bool (Op.bytesLess x y||x == y))
 | .gtr=>some (.bool !(Op.bytesLess x y||x == y))
 | .geq=>some (.bool !(Op.bytesLess x y))
 | _=>none
def eqA(d:Option TypeDesc)(x y:AV):Option Bool:=
 match d,x,y with
 | some .bool,.bool a,.bool b=>some (a == b)
 | some (.pointer _),.ED,.ED=>some true
 | some (.pointer _),.ED,.ro _=>some false
 | some (.pointer _),.ED,.hp .. => some false
 | some (.pointer _),.ED,.ep .. => some false
 | some (.pointer _),.ro _,.ED=>some false
 | some (.pointer _),.hp ..,.ED=>some false
 | some (.pointer _),.ep ..,.ED=>some false
 | some (.slice _),.AH,.AH=>some true
 | some (.slice _),.AH,.sl .. => some false
 | some (.slice _),.AH,.hs .. => some false
 | some (.slice _),.sl ..,.AH=>some false
 | some (.slice _),.hs ..,.AH=>some false
 | some (.map _ _),.Ga,.Ga=>some true
 | some (.map _ _),.Ga,.hm _=>some false
 | some (.map _ _),.hm _,.Ga=>some false
 | some (.func _ _ _),.Gc,.Gc=>some true
 | some (.func _ _ _),.Gc,.fn .. => some false
 | some (.func _ _ _),.fn ..,.Gc=>some false
 | some (.interface _),.I7,.iface .. => some false
 | some (.interface _),.iface ..,.I7=>some false
 | _,_,_=>none
def HR(T:Ty)(op:BinOp)(t:TypeId)(x y:AV):Option AV:=
 match op,x,y with
 | .shl,.int k a,.int _ b=>Hl .shl k a b
 | .shr,.int k a,.int _ b=>Hl .shr k a b
 | op,.int k a,.int k' b=>match decide (k=k')with
  | true=>Dy op k a b
  | false=>none
 | op,.str a,.str b=>D3 op a b
 | .eql,x,y=>(eqA (und T t) x y).map .bool
 | .neq,x,y=>(eqA (und T t) x y).map fun b=> .bool !b
 | _,_,_=>none
def QB(d:Option TypeDesc)(a b:Option AV):Option Bool:=match d,a,b with
 | some (.int _),some (.int k x),some (.int k' y)=>match decide (k=k')with
  | true=>some (x == y)
  | false=>none
 | some .string,some (.str x),some (.str y)=>some (x == y)
 | some .bool,some (.bool x),some (.bool y)=>some (x == y)
 | _,_,_=>none
def Vh(T:Ty)(xs ys:List AV):List Field->Option Bool
 | []=>some true
 | f::r=>match f.name == "_" with
  | true=>none
  | false=>match QB (und T f.type) xs[f.offset]? ys[f.offset]? with
   | some true=>Vh T xs ys r
   | some false=>some false
   | none=>none
def eqS(T:Ty)(E:TypeId->Bool)(t:TypeId)(x y:AV):Option Bool:=match E t,und T t,x,y with
 | true,some (.struct fs),.agg xs,.agg ys=>Vh T xs ys fs.toList
 | _,_,_,_=>none
@[simp] def binX(T:Ty)(E:TypeId->Bool)(op:BinOp)(t:TypeId)(x y:AV):Option AV:=match HR T op t x y with
 | some v=>some v
 | none=>match op with
  | .eql=>(eqS T E t x y).map .bool
  | .neq=>(eqS T E t x y).map fun b=> .bool !b
  | _=>none
def unA(op:UnOp)(x:AV):Option AV:=
 match op,x with
 | .not,.bool b=>some (.bool !b)
 | .neg,.int k n=>some (.int k (wr k (0 - n)))
 | .xor,.int k n=>Dy .xor k (if k.signed then -1 else k.max) n
 | _,_=>none
def intOf:AV->Option Int
 | .int _ n=>some n
 | _=>none
def Fu(i:Int)(n:Nat):Option Nat:=
 match decide (0<=i/\i<n)with
 | true=>some i.toNat
 | false=>none
def F7(i:Int)(n:Nat):Option Nat:=
 match decide (0<=i/\i<=n)with
 | true=>some i.toNat
 | false=>none
def BV(T:Ty)(t:TypeId)(x ix:AV):Option AV:=
 match und T t,x,intOf ix with
 | some (.slice e),.sl sz _ es,some i=>match Nat.beq sz (siz T e)&&Nat.blt 0 (siz T e),Fu i es.length with
  | true,some j=>(es[j]?).map .ro
  | _,_=>none
 | some (.slice e),.hs id gen sz off len _,some i=>match Nat.beq sz (siz T e)&&Nat.blt 0 (siz T e),Fu i len with
  | true,some j=>some (.ep id gen sz (off+j) 0)
  | _,_=>none
 | some (.array n e),.ro cs,some i=>match Nat.blt 0 (siz T e),Fu i n with
  | true,some j=>some (.ro (cs.drop (j * siz T e)))
  | _,_=>none
 | some (.array n e),.hp id off,some i=>match Nat.blt 0 (siz T e),Fu i n with
  | true,some j=>some (.hp id (off+j * siz T e))
  | _,_=>none
 | _,_,_=>none
def PM(T:Ty)(t:TypeId)(x ix:AV):Option AV:=
 match und T t,x,intOf ix with
 | some .string,.str s,some i=>match Fu i s.length with
  | some j=>(s[j]?).map fun b=> .int .u8 b.toNat
  | none=>none
 | some (.array n e),.agg cs,some i=>match Nat.blt 0 (siz T e),Fu i n with
  | true,some j=>OI T e (cs.drop (j * siz T e))
  | _,_=>none
 | _,_,_=>none
def AX(T:Ty)(s:TypeId)(p:AV)(f:Nat):Option AV:=
 match MN T s f with
 | none=>none
 | some fd=>match Nat.blt 0 (siz T fd.type),p with
  | true,.ro cs=>some (.ro (cs.drop fd.offset))
  | true,.hp id off=>some (.hp id (off+fd.offset))
  | true,.ep id gen sz i k=>some (.ep id gen sz i (k+fd.offset))
  | _,_=>none
def Rk(T:Ty)(s:TypeId)(x:AV)(f:Nat):Option AV:=
 match MN T s f,x with
 | some fd,.agg cs=>OI T fd.type (cs.drop fd.offset)
 | _,_=>none
def JN(place:Nat->Option (Nat×Nat))(cells:List AV):List (Nat×AV)->Option (List AV)
 | []=>some cells
 | (i,v)::rest=>match place i,v.cells with
  | some (off,size),some cs=>match Nat.beq cs.length size&&Nat.ble (off+cs.length) cells.length with
   | true=>JN place (Ay cells off cs) rest
   | false=>none
  | _,_=>none
def Db:List (Nat×Operand)->List AV->List (Nat×AV)
 | (i,_)::r,v::s=>(i,v)::Db r s
 | _,_=>[]
def CW(T:Ty)(t:TypeId)(parts:List (Nat×AV)):Option AV:=
 match Ei T t,und T t with
 | some zero,some (.struct fs)=>(JN (fun i=>(fs[i]?).map fun f=>(f.offset,siz T f.type)) zero parts).map .agg
 | some zero,some (.array _ e)=>(JN (fun i=>some (i * siz T e,siz T e)) zero parts).map .agg
 | _,_=>none
def Aq(sz:Nat)(es:List (List AV)):List (Nat×AV)->Option (List (List AV))
 | []=>some es
 | (i,v)::rest=>match v.cells with
  | some cs=>match Nat.beq cs.length sz&&Nat.blt i es.length with
   | true=>Aq sz (es.set i cs) rest
   | false=>none
  | none=>none
def A3(h:AF)(sz:Nat)(es:List (List AV)):AV×AF:=(.hs h.length es.length sz 0 es.length false,h++[.arr sz false es])
def Ag(T:Ty)(ml:Bool)(t:TypeId)(len:Nat)(parts:List (Nat×AV))(h:AF):Option (AV×AF):=
 match und T t with
 | some (.slice e)=>match Nat.blt 0 (siz T e)&&Nat.ble (len * siz T e) 16777216,Ei T e with
  | true,some zero=>match Nat.beq zero.length (siz T e)with
   | true=>match Aq (siz T e) (List.replicate len zero) parts with
    | some es=>match !ml&&es.all AG with
     | true=>some (.sl (siz T e) true es,h)
     | false=>some (A3 h (siz T e) es)
    | none=>none
   | false=>none
  | _,_=>none
 | _=>none
def Iq(T:Ty)(t:TypeId)(len cap:AV)(h:AF):Option (AV×AF):=
 match und T t,intOf len,intOf cap with
 | some (.slice e),some l,some c=>match decide (0<=l/\l=c/\c<17592186044416/\(byt T e:Int) * c<=17592186044416)&&Nat.blt 0 (siz T e),Ei T e with
  | true,some zero=>match Nat.beq zero.length (siz T e)with
   | true=>some (A3 h (siz T e) (List.replicate l.toNat zero))
   | false=>none
  | _,_=>none
 | _,_,_=>none
def DF(s:List UInt8):List (List AV):=s.map fun b=>[.int .u8 b.toNat]
def BM:AV->Option Nat
 | .sl sz _ _=>some sz
 | .hs _ _ sz _ _ _=>some sz
 | _=>none
def CC(sz:Nat)(v:AV):Bool:=match BM v with
 | some s=>Nat.beq s sz
 | none=>true
def Mo(T:Ty)(e:TypeId)(zeros:Bool)(x:AV)(h:AF):Option (List (List AV)):=
 match zeros with
 | true=>match x,Ei T e with
  | .int _ n,some z=>match decide (0<=n/\n<=17592186044416)&&Nat.beq z.length (siz T e)with
   | true=>some (List.replicate n.toNat z)
   | false=>none
  | _,_=>none
 | false=>match x with
  | .str b=>match Nat.beq (siz T e) 1 with
   | true=>some (DF b)
   | false=>none
  | _=>match CC (siz T e) x with
   | true=>A7 h x
   | false=>none
def MO(T:Ty)(t:TypeId)(zeros:Bool)(s x:AV)(h:AF):Option (AV×AF):=
 match und T t with
 | some (.slice e)=>
  match Mo T e zeros x h,F6 s with
  | some xs,some n=>
   match CC (siz T e) s&&Nat.blt 0 (siz T e)&&Nat.ble ((n+xs.length) * byt T e) 17592186044416&&Nat.ble (n+xs.length) 17592186044416&&(Ei T e).isSome with
   | false=>none
   | true=>match xs with
    | []=>match s with
     | .AH=>some (s,h)
     | .sl .. => some (s,h)
     | .hs .. => some (s,h)
     | _=>none
    | _::_=>match s with
     | .AH=>some (A3 h (siz T e) xs)
     | .sl _ true es=>some (A3 h (siz T e) (es++xs))
     | .hs id gen sz off len ex=>match h[id]? with
      | some (.arr sz' lk es)=>match Nat.beq es.length gen&&Nat.beq sz' sz&&Nat.ble (off+len) es.length with
       | false=>none
       | true=>match ex with
        | true=>some (A3 h (siz T e) ((es.drop off).take len++xs))
        | false=>match Nat.beq off 0&&(Nat.beq len es.length||(!lk&&Nat.blt es.length (len+xs.length)))with
         | true=>some (.hs id (len+xs.length) sz 0 (len+xs.length) false,h.set id (.arr sz lk (es.take len++xs)))
         | false=>match !lk&&Nat.ble (off+len+xs.length) es.length with
          | true=>some (.hs id gen sz off (len+xs.length) false,h.set id (.arr sz lk (es.take (off+len)++xs++es.drop (off+len+xs.length))))
          | false=>none
      | _=>none
     | _=>none
  | _,_=>none
 | _=>none
def C9(d:Nat)(x:Option AV):Option Int:=match x with
 | none=>some d
 | some v=>intOf v
def KX(b:Nat):Option AV->Bool
 | none=>true
 | some m=>match intOf m with
  | some m=>decide (m=b)
  | none=>false
def HD(T:Ty)(t:TypeId)(x:AV)(lo hi mx:Option AV):Option AV:=
 match mx.isSome&&hi.isNone with
 | true=>none
 | false=>match und T t,x with
  | some .string,.str s=>match mx,(C9 s.length hi).bind (F7 · s.length),C9 0 lo with
   | none,some b,some l=>(F7 l b).map fun a=> .str ((s.drop a).take (b - a))
   | _,_,_=>none
  | some (.slice e),.AH=>match(T e).isSome,C9 0 lo,C9 0 hi,C9 0 mx with
   | true,some 0,some 0,some 0=>some .AH
   | _,_,_,_=>none
  | some (.slice e),.sl sz ex es=>match Nat.beq sz (siz T e)&&Nat.blt 0 (siz T e),(C9 es.length hi).bind (F7 · es.length),C9 0 lo with
   | true,some b,some l=>match F7 l b,KX b mx with
    | some a,true=>some (.sl sz (mx.isSome||(ex&&Nat.beq b es.length)) ((es.drop a).take (b - a)))
    | _,_=>none
   | _,_,_=>none
  | some (.slice e),.hs id gen sz off len ex=>match Nat.beq sz (siz T e)&&Nat.blt 0 (siz T e),(C9 len hi).bind (F7 · len),C9 0 lo with
   | true,some b,some l=>match F7 l b,KX b mx&&(mx.isSome || !ex||Nat.beq b len)with
    | some a,true=>some (.hs id gen sz (off+a) (b - a) (mx.isSome||ex))
    | _,_=>none
   | _,_,_=>none
  | _,_=>none
def Gz(T:Ty)(src dst:TypeId)(x:AV)(h:AF):Option (AV×AF):=
 match und T src,und T dst,x with
 | some _,some (.int k),.int _ n=>some (.int k (wr k n),h)
 | some _,some .string,.str s=>some (.str s,h)
 | some .string,some (.slice e),.str s=>match und T e with
  | some (.int .u8)=>some (A3 h 1 (DF s))
  | _=>none
 | _,_,_=>none
def En(d:Option TypeDesc)(x y:AV):Option Bool:=
 match d,x,y with
 | some .string,.str a,.str b=>some (a == b)
 | some .bool,.bool a,.bool b=>some (a == b)
 | some (.int _),.int k a,.int k' b=>match decide (k=k')with
  | true=>some (a == b)
  | false=>none
 | _,_,_=>none
def G0(d:Option TypeDesc)(k:AV):List (AV×AV)->Option (Option AV)
 | []=>some none
 | (k',v)::r=>match En d k k' with
  | some true=>some (some v)
  | some false=>G0 d k r
  | none=>none
def MJ(d:Option TypeDesc)(k v:AV):List (AV×AV)->List (AV×AV)
 | []=>[(k,v)]
 | (k',v')::r=>match En d k k' with
  | some true=>(k,v)::r
  | _=>(k',v')::MJ d k v r
def HS(T:Ty)(t:TypeId)(m k:AV)(ok:Bool)(h:AF):Option AV:=
 match und T t with
 | some (.map kt e)=>
  match(match m with | .Ga=>some [] | .hm id=>(match h[id]? with | some (.mp es)=>some es | _=>none) | _=>none)with
  | none=>none
  | some es=>match(match En (und T kt) k k with | some _=>G0 (und T kt) k es | none=>none),zeroV T e with
   | some r,some z=>match ok with
    | true=>some (.tup [r.getD z,.bool r.isSome])
    | false=>some (r.getD z)
   | _,_=>none
 | _=>none
def MP(T:Ty)(t:TypeId)(m k v:AV)(h:AF):Option AF:=
 match und T t,m with
 | some (.map kt _),.hm id=>match h[id]? with
  | some (.mp es)=>match(match En (und T kt) k k with | some _=>G0 (und T kt) k es | none=>none)with
   | some _=>some (h.set id (.mp (MJ (und T kt) k v es)))
   | none=>none
  | _=>none
 | _,_=>none
abbrev Ds:Nat:=10000000
def A4:List AV->AF->Option (List AV×AF)
 | [],h=>some ([],h)
 | v::r,h=>match(match v.AA with | true=>some (v,h) | false=>snap Ds v h)with
  | some (v',h')=>match A4 r h' with
   | some (r',h'')=>some (v'::r',h'')
   | none=>none
  | none=>none
def posOf(ids:List Nat)(id:Nat):Option Nat:=match ids with
 | []=>none
 | i::r=>match Nat.beq i id with
  | true=>some 0
  | false=>match posOf r id with
   | some k=>some (k+1)
   | none=>none
def PO(ids:List Nat)(id:Nat):List Nat:=match posOf ids id with
 | some _=>ids
 | none=>ids++[id]
def Vi(ids:List Nat)(v:AV):List Nat:=match v with
 | .hp id _=>PO ids id
 | .ep id .. => PO ids id
 | .hs id .. => PO ids id
 | .hm id=>PO ids id
 | _=>ids
def topA(ids:List Nat)(v:AV):List Nat:=match v with
 | .agg cs=>cs.foldl Vi ids
 | v=>Vi ids v
def PQ(v:AV):List Nat:=match v with
 | .tup vs=>vs.foldl topA []
 | v=>topA [] v
def GC(base:Nat)(ids:List Nat)(v:AV):Option AV:=match v with
 | .hp id off=>(posOf ids id).map fun k=> .hp (base+k) off
 | .ep id g s i k=>(posOf ids id).map fun j=> .ep (base+j) g s i k
 | .hs id g s o l e=>(posOf ids id).map fun k=> .hs (base+k) g s o l e
 | .hm id=>(posOf ids id).map fun k=> .hm (base+k)
 | v=>match v.AA with
  | true=>some v
  | false=>none
def HT(base:Nat)(ids:List Nat):List AV->Option (List AV)
 | []=>some []
 | v::r=>match GC base ids v,HT base ids r with
  | some a,some b=>some (a::b)
  | _,_=>none
def Ll(base:Nat)(ids:List Nat)(v:AV):Option AV:=match v with
 | .agg cs=>(HT base ids cs).map .agg
 | v=>GC base ids v
def Ky(base:Nat)(ids:List Nat):List AV->Option (List AV)
 | []=>some []
 | v::r=>match Ll base ids v,Ky base ids r with
  | some a,some b=>some (a::b)
  | _,_=>none
def IM(base:Nat)(ids:List Nat)(v:AV):Option AV:=match v with
 | .tup vs=>(Ky base ids vs).map .tup
 | v=>Ll base ids v
def Blk.AA:Blk->Bool
 | .var _ cs=>AG cs
 | .arr _ _ es=>es.all AG
 | .mp es=>es.all fun p=>p.1.AA&&p.2.AA
 | .hole=>false
def settle:List Nat->AF->Option AF
 | [],h=>some h
 | id::r,h=>match h[id]? with
  | some (.var _ cs)=>match AG cs with
   | true=>settle r h
   | false=>match GS Ds cs h with
    | some (cs',h')=>match h'[id]? with
     | some (.var lk _)=>settle r (h'.set id (.var lk cs'))
     | _=>none
    | none=>none
  | some (.arr sz0 _ es)=>match es.all AG with
   | true=>settle r h
   | false=>match GU Ds es h with
    | some (es',h')=>match h'[id]? with
     | some (.arr sz lk es0)=>match Nat.beq es0.length es'.length&&Nat.beq sz sz0 with
      | true=>settle r (h'.set id (.arr sz lk es'))
      | false=>none
     | _=>none
    | none=>none
  | _=>settle r h
def ET(h:AF):List Nat->Option (List Blk)
 | []=>some []
 | id::r=>match h[id]?,ET h r with
  | some b,some bs=>match b.AA with
   | true=>some (b::bs)
   | false=>none
  | _,_=>none
def distinct:List Nat->Bool
 | []=>true
 | i::r => !(r.elem i)&&distinct r
def DG(keep:Bool)(hc:AF)(v:AV)(h:AF):Option (AV×AF):=
 match keep with
 | true=>match settle (PQ v) h with
  | none=>none
  | some h1=>match distinct (PQ v),IM hc.length (PQ v) v,ET h1 (PQ v)with
   | true,some v',some bs=>some (v',hc++bs)
   | _,_,_=>none
 | false=>match(match v.AA with | true=>some (v,h) | false=>snap Ds v h)with
  | some (v',_)=>match v'.AA with
   | true=>some (v',hc)
   | false=>none
  | none=>none
def AI(M:Par)(C:CH)(f:FuncId)(args:List AV)(h:AF):Option (CR×AF):=
 match(M.mode f).fresh with
 | false=>C f args h
 | true=>match A4 args h with
  | none=>none
  | some (args',h')=>match args'.all AV.AA with
   | false=>none
   | true=>match C f args' []with
    | some (.ret v,hr)=>match DG (M.mode f).keepTop h' v hr with
     | some (v',h'')=>some (.ret v',h'')
     | none=>none
    | some (.pan v,_)=>match v.AA with
     | true=>some (.pan v,h')
     | false=>none
    | none=>none
inductive OR where
 | val (v:AV) (h:AF)
 | pan (v:AV) (h:AF)
 deriving Inhabited
def OR.ofV(h:AF):Option AV->Option OR
 | some v=>some (.val v h)
 | none=>none
def OR.Dz:Option (AV×AF)->Option OR
 | some (v,h)=>some (.val v h)
 | none=>none
def OR.ofC:Option (CR×AF)->Option OR
 | some (.ret v,h)=>some (.val v h)
 | some (.pan v,h)=>some (.pan v h)
 | none=>none
def Vj:List AV->Option AV
 | [.int k x,.int _ y]=>some (.int k (if y > x then y else x))
 | _=>none
def Vk:List AV->Option AV
 | [.int k x,.int _ y]=>some (.int k (if y<x then y else x))
 | _=>none
def IP:TypeDesc->Option Bool
 | .int _=>some true
 | .string=>some false
 | .slice _=>some false
 | _=>none
def Ad(T:Ty)(b:Builtin)(ts:List TypeId)(args:List AV)(h:AF):Option OR:=
 match b,ts,args with
 | .append,t::u::_,[s,x]=>match und T u with
  | some d=>match IP d with
   | some z=>OR.Dz (MO T t z s x h)
   | none=>none
  | none=>none
 | .cap,t::_,[x]=>match und T t,x with
  | some (.slice _),.AH=>some (.val (.int .i64 0) h)
  | some (.slice _),.sl _ true es=>some (.val (.int .i64 es.length) h)
  | some (.slice _),.hs _ _ _ _ l true=>some (.val (.int .i64 l) h)
  | _,_=>none
 | .len,t::_,[x]=>match und T t,x with
  | some .string,.str s=>some (.val (.int .i64 s.length) h)
  | some (.slice _),.AH=>some (.val (.int .i64 0) h)
  | some (.slice _),.sl _ _ es=>some (.val (.int .i64 es.length) h)
  | some (.slice _),.hs _ _ _ _ l _=>some (.val (.int .i64 l) h)
  | some (.map _ _),.Ga=>some (.val (.int .i64 0) h)
  | some (.map _ _),.hm id=>match h[id]? with
   | some (.mp es)=>some (.val (.int .i64 es.length) h)
   | _=>none
  | some (.array n _),_=>some (.val (.int .i64 n) h)
  | _,_=>none
 | .max,_,args=>OR.ofV h (Vj args)
 | .min,_,args=>OR.ofV h (Vk args)
 | _,_,_=>none
def GV(t:Tm)(x:Operand)(h:AF):Option OR:=OR.ofV h (ev t x)
def FF(t:Tm)(c a b:Operand)(h:AF):Option OR:=match ev t c with
 | some (.bool true)=>OR.ofV h (ev t a)
 | some (.bool false)=>OR.ofV h (ev t b)
 | _=>none
def EF(T:Ty)(e:TypeId)(h:AF):Option OR:=match Ei T e with
 | some cs=>some (.val (.hp h.length 0) (h++[.var false cs]))
 | none=>none
def HE(t:Tm)(x:Operand)(h:AF):Option OR:=match(ev t x).bind AV.cells with
 | some cs=>some (.val (.hp h.length 0) (h++[.var false cs]))
 | none=>none
def D4(T:Ty)(t:Tm)(ty:TypeId)(ps:Array (Nat×Operand))(h:AF):Option OR:=match evs t (ps.toList.map (·.2))with
 | some vs=>OR.ofV h (CW T ty (Db ps.toList vs))
 | none=>none
def Ax(M:Par)(fid:Nat)(t:Tm)(ty:TypeId)(n:Nat)(ps:Array (Nat×Operand))(h:AF):Option OR:=match evs t (ps.toList.map (·.2))with
 | some vs=>OR.Dz (Ag M.ty (M.mutLit fid) ty n (Db ps.toList vs) h)
 | none=>none
def FB(T:Ty)(t:Tm)(ty:TypeId)(a:Operand)(h:AF):Option OR:=match ev t a with
 | some p=>OR.ofV h (CL T h ty p)
 | none=>none
def EG(T:Ty)(t:Tm)(ty:TypeId)(a x:Operand)(h:AF):Option OR:=match ev t a,ev t x with
 | some p,some v=>match Cb T h ty p v with
  | some h'=>some (.val (.tup []) h')
  | none=>none
 | _,_=>none
def HF(t:Tm)(x:Operand)(h:AF):Option OR:=match ev t x with
 | some (.ro cs)=>some (.val (.ro cs) h)
 | some (.hp i o)=>some (.val (.hp i o) h)
 | some (.ep a b c d e)=>some (.val (.ep a b c d e) h)
 | some (.fn f a c)=>some (.val (.fn f a c) h)
 | _=>none
def HG(T:Ty)(E:TypeId->Bool)(t:Tm)(op:BinOp)(ty:TypeId)(x y:Operand)(h:AF):Option OR:=match ev t x,ev t y with
 | some a,some b=>OR.ofV h (binX T E op ty a b)
 | _,_=>none
def xUn(t:Tm)(op:UnOp)(x:Operand)(h:AF):Option OR:=match ev t x with
 | some a=>OR.ofV h (unA op a)
 | none=>none
def E7(T:Ty)(t:Tm)(src dst:TypeId)(x:Operand)(h:AF):Option OR:=match ev t x with
 | some a=>OR.Dz (Gz T src dst a h)
 | none=>none
def D5(T:Ty)(t:Tm)(ty:TypeId)(x:Operand)(h:AF):Option OR:=match ev t x,und T ty with
 | some _,some (.interface _)=>none
 | some a,some _=>some (.val (.iface ty a) h)
 | _,_=>none
def FG(t:Tm)(f:FuncId)(first cap:Array Operand)(h:AF):Option OR:=match evs t first.toList,evs t cap.toList with
 | some us,some vs=>some (.val (.fn f us vs) h)
 | _,_=>none
def BF(T:Ty)(t:Tm)(ty:TypeId)(l c:Operand)(h:AF):Option OR:=match ev t l,ev t c with
 | some a,some b=>OR.Dz (Iq T ty a b h)
 | _,_=>none
def DH(T:Ty)(t:Tm)(ty:TypeId)(x:Operand)(lo hi mx:Option Operand)(h:AF):Option OR:=match ev t x,evs t (lo.toList++hi.toList++mx.toList)with
 | some a,some _=>OR.ofV h (HD T ty a (lo.bind (ev t)) (hi.bind (ev t)) (mx.bind (ev t)))
 | _,_=>none
def BG(T:Ty)(t:Tm)(ty:TypeId)(x:Operand)(f:Nat)(h:AF):Option OR:=match ev t x with
 | some a=>OR.ofV h (AX T ty a f)
 | none=>none
def D6(T:Ty)(t:Tm)(ty:TypeId)(x:Operand)(f:Nat)(h:AF):Option OR:=match ev t x with
 | some a=>OR.ofV h (Rk T ty a f)
 | none=>none
def BH(T:Ty)(t:Tm)(ty:TypeId)(x i:Operand)(h:AF):Option OR:=match ev t x,ev t i with
 | some a,some b=>OR.ofV h (BV T ty a b)
 | _,_=>none
def D7(T:Ty)(t:Tm)(ty:TypeId)(x i:Operand)(h:AF):Option OR:=match ev t x,ev t i with
 | some a,some b=>OR.ofV h (PM T ty a b)
 | _,_=>none
def Ce(T:Ty)(t:Tm)(ty:TypeId)(x i:Operand)(ok:Bool)(h:AF):Option OR:=match ev t x,ev t i with
 | some a,some b=>OR.ofV h (HS T ty a b ok h)
 | _,_=>none
def CX(T:Ty)(t:Tm)(ty:TypeId)(m k x:Operand)(h:AF):Option OR:=match ev t m,ev t k,ev t x with
 | some a,some b,some c=>match MP T ty a b c h with
  | some h'=>some (.val (.tup []) h')
  | none=>none
 | _,_,_=>none
def Bw(t:Tm)(x:Operand)(i:Nat)(h:AF):Option OR:=match ev t x with
 | some (.tup vs)=>OR.ofV h vs[i]?
 | _=>none
def BJ(T:Ty)(t:Tm)(b:Builtin)(args:Array Operand)(ts:Array TypeId)(h:AF):Option OR:=match evs t args.toList with
 | some vs=>Ad T b ts.toList vs h
 | none=>none
def Ej(M:Par)(C:CH)(t:Tm)(f:Operand)(args:Array Operand)(h:AF):Option OR:=match ev t f,evs t args.toList with
 | some (.fn g fs cap),some vs=>match M.prim g with
  | some p=>OR.ofV h (p (fs++vs++cap))
  | none=>OR.ofC (AI M C g (fs++vs++cap) h)
 | _,_=>none
def EH(t:Tm)(x:Operand)(h:AF):Option OR:=match ev t x with
 | some (.iface ty v)=>some (.pan (.iface ty v) h)
 | _=>none
def Al(M:Par)(fid:Nat)(C:CH)(t:Tm)(o:Op)(h:AF):Option OR:=
 match o with
 | .move x=>GV t x h
 | .assign x=>GV t x h
 | .pick c a b=>FF t c a b h
 | .alloc e=>EF M.ty e h
 | .box _ x=>HE t x h
 | .build ty ps=>D4 M.ty t ty ps h
 | .buildSlice ty n ps=>Ax M fid t ty n ps h
 | .load ty a=>FB M.ty t ty a h
 | .store ty a x=>EG M.ty t ty a x h
 | .nilCheck x=>HF t x h
 | .binOp op ty x y _=>HG M.ty M.eqs t op ty x y h
 | .unOp op _ x=>xUn t op x h
 | .convert src dst x=>E7 M.ty t src dst x h
 | .makeInterface ty x=>D5 M.ty t ty x h
 | .makeFunc (.func f) first cap=>FG t f first cap h
 | .makeMap _ none=>some (.val (.hm h.length) (h++[.mp []]))
 | .makeSlice ty l c=>BF M.ty t ty l c h
 | .slice ty x lo hi mx=>DH M.ty t ty x lo hi mx h
 | .fieldAddr ty x f=>BG M.ty t ty x f h
 | .field ty x f=>D6 M.ty t ty x f h
 | .indexAddr ty x i=>BH M.ty t ty x i h
 | .index ty x i=>D7 M.ty t ty x i h
 | .lookup ty x i ok=>Ce M.ty t ty x i ok h
 | .mapUpdate ty m k x=>CX M.ty t ty m k x h
 | .insert ty m k x=>CX M.ty t ty m k x h
 | .extract x i=>Bw t x i h
 | .call { callee:=.builtin b,args,argTypes }=>BJ M.ty t b args argTypes h
 | .call { callee:=.value f,args,.. }=>Ej M C t f args h
 | .panic x=>EH t x h
 | _=>none
inductive Kd where
 | st
 | ld (id:Nat)
 | ch (Da:List Nat)
 deriving Inhabited
def E8:AV->Option Nat
 | .hp id _=>some id
 | .ep id .. => some id
 | .hs id .. => some id
 | .hm id=>some id
 | _=>none
def DI(v:Option AV):Kd:=match v.bind E8 with
 | some id=> .ld id
 | none=> .st
def JO:Nat->AF->List Nat
 | _,[]=>[]
 | k,_::r=>k::JO (k+1) r
def Da:Nat->AF->AF->List Nat
 | k,[],s=>JO k s
 | k,_::r,[]=>k::Da (k+1) r []
 | k,b::r,c::s=>match Blk.beq b c with
  | true=>Da (k+1) r s
  | false=>k::Da (k+1) r s
def FH(M:Par)(t:Tm)(o:Op)(h h':AF):Kd:=
 match o with
 | .load _ a=>DI (ev t a)
 | .lookup _ m _ _=>DI (ev t m)
 | .call { callee:=.builtin .len,args,.. }=>(match((args[0]?).bind (ev t))with | some (.hm id)=> .ld id | _=> .st)
 | .call { callee:=.builtin .max,.. }=> .st
 | .call { callee:=.builtin .min,.. }=> .st
 | .call { callee:=.value f,args,.. }=>(match ev t f,evs t args.toList with
  | some (.fn g fs cap),some vs=>(match(M.prim g).isSome||((M.mode g).fresh && !(M.mode g).keepTop&&(fs++vs++cap).all AV.AA)with
   | true=> .st
   | false=> .ch (Da 0 h h'))
  | _,_=> .ch (Da 0 h h'))
 | .alloc _=> .ch [h.length]
 | .box .. => .ch [h.length]
 | .buildSlice .. => (match Nat.beq h.length h'.length with | true=> .st | false=> .ch [h.length])
 | .makeMap .. => .ch [h.length]
 | .makeSlice .. => .ch [h.length]
 | .convert .. => (match Nat.beq h.length h'.length with | true=> .st | false=> .ch [h.length])
 | .store .. => .ch (Da 0 h h')
 | .mapUpdate .. => .ch (Da 0 h h')
 | .insert .. => .ch (Da 0 h h')
 | .call _=> .ch (Da 0 h h')
 | .panic _=> .ch (Da 0 h h')
 | _=> .st
def Bg(ops:Array Oper)(t:Tm)(o:Oper):Option Bool:=
 match o.guard with
 | none=>some true
 | some (j,want)=>match(ops[j]?).bind (·.dst)with
  | none=>none
  | some d=>match t.get d with
   | .bool b=>some (b == want)
   | .tup []=>some false
   | _=>none
def FP(N:Nat)(t:Tm)(dst:Option Nat)(v:AV):Option Tm:=
 match dst with
 | none=>some t
 | some d=>match Nat.blt d N with
  | true=>some ((d,v)::t)
  | false=>none
inductive RO where
 | done (t:Tm) (h:AF) (ks:List Kd)
 | pan (v:AV) (h:AF)
 deriving Inhabited
def Ar(M:Par)(fid N:Nat)(C:CH)(ops:Array Oper):List Oper->Tm->AF->List Kd->Option RO
 | [],t,h,ks=>some (.done t h ks)
 | o::r,t,h,ks=>match Bg ops t o with
  | none=>none
  | some false=>match FP N t o.dst (.tup [])with
   | some t'=>Ar M fid N C ops r t' h (.st::ks)
   | none=>none
  | some true=>match Al M fid C t o.op h with
   | some (.val v h')=>match FP N t o.dst v with
    | some t'=>Ar M fid N C ops r t' h' (FH M t o.op h h'::ks)
    | none=>none
   | some (.pan v h')=>some (.pan v h')
   | none=>none
def looks(ops:Array Oper)(o:Oper):List Nat:=o.looksAt ops
def isDst(o:Oper)(l:List Nat):Bool:=match o.dst with
 | some d=>l.elem d
 | none=>false
def S6(a b:Oper):Bool:=match a.dst,b.dst with
 | some d,some e=>Nat.beq d e
 | _,_=>false
def BN(a b:Kd):Bool:=match a,b with
 | .ch _,.ch _=>true
 | .ch m,.ld id=>m.elem id
 | .ld id,.ch m=>m.elem id
 | _,_=>false
def PR(ops:Array Oper):Bool:=
 (List.range ops.size).all fun j=>(List.range j).all fun i=>
   match ops[i]?,ops[j]? with
   | some a,some b=>((Region.before ops).getD j 0).testBit i || !(isDst a (looks ops b)||isDst b (looks ops a)||S6 a b)
   | _,_=>false
def PS(ops:Array Oper):Bool:=
 (List.range ops.size).all fun i=>match ops[i]? with
   | some o=>o.after.toList.all fun e => !(Region.binds .any e)||Nat.blt e.on i
   | none=>true
def GB(bef:Array Nat):List (Nat×Kd)->Bool
 | []=>true
 | (i,x)::r=>(r.all fun p => !(BN x p.2)||(bef.getD p.1 0).testBit i)&&GB bef r
def isSt:Kd->Bool
 | .st=>true
 | _=>false
def Bt:Nat->List Kd->List (Nat×Kd)
 | _,[]=>[]
 | k,.st::r=>Bt (k+1) r
 | k,x::r=>(k,x)::Bt (k+1) r
def Hm(ops:Array Oper)(ks:List Kd):Bool:=GB (Region.before ops) (Bt 0 ks)
def okC:Code->Bool
 | .region _ ops d => !d||(PS ops&&PR ops)
 | .seq a b=>okC a&&okC b
 | .cond _ a b=>okC a&&okC b
 | .block _ c=>okC c
 | .loop c=>okC c
 | _=>true
inductive Ex where
 | nrm
 | ext (id:Nat)
 | ret
 | pan (v:AV)
 deriving Inhabited
abbrev St:=Tm×AF
def iter:Nat->(St->Option (Ex×St))->St->Option (Ex×St)
 | 0,_,_=>none
 | n+1,f,s=>match f s with
  | some (.nrm,s')=>iter n f s'
  | r=>r
def BZ(M:Par)(fid N:Nat)(C:CH)(id:Nat)(ops:Array Oper)(draw:Bool)(s:St):Option (Ex×St):=
 match Ar M fid N C ops ops.toList s.1 s.2 []with
 | some (.done t h ks)=>match(match draw with | true=>Hm ops ks.reverse | false=>true)with
  | true=>match M.keep fid id with
   | some l=>some (.nrm,(t.only l,h))
   | none=>some (.nrm,(t,h))
  | false=>none
 | some (.pan v h)=>match draw with
  | true=>none
  | false=>some (.pan v,([],h))
 | none=>none
def codeF(M:Par)(fid N:Nat)(C:CH)(L:Nat):Code->St->Option (Ex×St)
 | .skip,s=>some (.nrm,s)
 | .region id ops d,s=>BZ M fid N C id ops d s
 | .seq a b,s=>match codeF M fid N C L a s with
  | some (.nrm,s')=>codeF M fid N C L b s'
  | r=>r
 | .cond c a b,s=>match ev s.1 c with
  | some (.bool true)=>codeF M fid N C L a s
  | some (.bool false)=>codeF M fid N C L b s
  | _=>none
 | .block id c,s=>match codeF M fid N C L c s with
  | some (.ext j,s')=>match Nat.beq j id with
   | true=>some (.nrm,s')
   | false=>some (.ext j,s')
  | r=>r
 | .loop c,s=>iter L (codeF M fid N C L c) s
 | .exit id,s=>some (.ext id,s)
 | .ret,s=>some (.ret,s)
 | _,_=>none
def DJ(T:Ty)(t:Tm)(h:AF):List ResultVar->Option (List AV)
 | []=>some []
 | .tmp d::r=>(DJ T t h r).map (t.get d :: ·)
 | .cell a ty::r=>match CL T h ty (t.get a),DJ T t h r with
  | some v,some vs=>some (v::vs)
  | _,_=>none
def CF(T:Ty)(t:Tm)(h:AF)(rs:Array ResultVar):Option AV:=
 match DJ T t h rs.toList with
 | some [v]=>some v
 | some vs=>some (.tup vs)
 | none=>none
def finish(T:Ty)(fn:Func):Option (Ex×St)->Option (CR×AF)
 | some (.nrm,(t,h))=>(CF T t h fn.results).map fun v=>(.ret v,h)
 | some (.ret,(t,h))=>(CF T t h fn.results).map fun v=>(.ret v,h)
 | some (.pan v,(_,h))=>some (.pan v,h)
 | _=>none
def MK(M:Par)(C:CH)(L:Nat)(f:FuncId)(args:List AV)(h:AF):Option (CR×AF):=
 match M.fn f with
 | none=>none
 | some fn=>match fn.body with
  | none=>none
  | some c=>match Nat.ble args.length fn.ntmps with
   | true=>finish M.ty fn (codeF M f fn.ntmps C L c (Tm.init 0 args,h))
   | false=>none
def EA(M:Par):Nat->CH
 | 0=>fun _ _ _=>none
 | n+1=>fun f args h=>match M.eff f with
  | some e=>e args h
  | none=>MK M (EA M n) n f args h
end Go.Am
