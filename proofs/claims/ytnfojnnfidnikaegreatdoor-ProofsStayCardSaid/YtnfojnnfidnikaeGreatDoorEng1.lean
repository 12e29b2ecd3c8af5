/-
  The engine: what the machine does to data, shown once for all programs (part 1).
-/
import Derived.Laws.Sem
import Derived.Lib.ItoaNum
import Derived.Lib.LaidTab
import Derived.Lib.TrailingZeros
import Derived.Shelf.Unicode.DecodeSlow
import Derived.Test.YtnfojnnfidnikaeGreatDoorProg
import Derived.Still
import Derived.MapKept
import Derived.Laws.World
import Derived.Laws.Cells
import Derived.Laws.CopyRow
import Derived.Laws.Strings
import Derived.Laws.Pointers
import Derived.Laws.StructEq
/-
  THE ENGINE: what is known of the package-level variables when the law is called: here nothing.
-/
namespace Go.Eng
theorem ob_.{u_1,u_2} {α:Type u_1} {β:Type u_2} (a:α) (f:α->Option β):(some a).bind f=f a:=rfl
theorem so_.{u_1} {α:Type u_1} (a b:α):(some a=some b)=(a=b):=Option.some.injEq a b
theorem ls_ (n:Nat):n<n.succ:=Nat.lt_succ_self n
def zH : World → Prop := fun w => Go.Lib.TabIs Go.Proofs.Tryz.prog w "math/bits.deBruijn64tab" .u8 (Go.Lib.deBruijn64tab.map (fun (n : Nat) => (n : Int))) ∧ Go.Lib.TabIs Go.Proofs.Tryz.prog w "internal/strconv.uint64pow10" .u64 Go.Lib.pow10Tab ∧ (∃ m, w.cell? ⟨0, 0, none⟩ = some (.int .i64 m)) ∧ Go.Lib.Utf8Tabs 2 3 w
def byteK:TypeId:=5
class DM where
 dm:Bool
def dmK [DM]:Bool:=DM.dm
instance dmI:DM:=⟨false⟩
@[reducible] def dmT:DM:=⟨true⟩
end Go.Eng

/-
  THE ENGINE, ITS WORDS: data without addresses (D), what a temporary may hold (V), the boxes of a store (Box), and what each operation does to them, computed.
-/
namespace Go.Eng
abbrev Nm:=Nat×Nat
inductive D where
 | int (k:IntKind) (n:Int)
 | bool (b:Bool)
 | str (s:ByteArray)
 | sl (xs:List (List D))
 | agg (cs:List D)
 | ptr (cs:List D)
 | nilp
inductive V where
 | d (x:D)
 | nil
 | nilm
 | nili
 | ref (n:Nm) (i j:Nat)
 | vs (n:Nm) (sz k len:Nat)
 | fn (f:FuncId) (caps:List V)
 | agg (cs:List V)
 | tup (vs:List V)
 | map (n:Nm)
 | none
 | any
inductive Box where
 | vec (sz:Nat) (xs:List (List D))
 | froz (sz:Nat) (xs:List (List D))
 | cells (sz:Nat) (cs:List V)
 | map (es:List (D×D))
 | pmap (es:List (D×V))
 | iter (cur:Option (D×V)) (left:List (D×V))
abbrev Store:=Nm->Option Box
structure Eff where
 req:List (Nm×Box)
 upd:List (Nm×Option Box)
 val:V
structure St where
 slots:Nat->V
 store:Store
 tick:Nat
def upd (f:Nat->V) (i:Nat) (v:V):Nat->V:=λj=>bif Nat.beq j i then v else f j
def supd (S:Store) (n:Nm) (b:Option Box):Store:=λm=>if m=n then b else S m
def fo (S:Store):List (Nm×Option Box)->Store
 | []=>S
 | (n,b)::rest=>fo (supd S n b) rest
def EE:List V->Option (List D)
 | []=>some []
 | .d x::vs=>(EE vs).map (x :: ·)
 | _::_=>Option.none
def uX:List V->Option (List D)
 | []=>some []
 | .d x::vs=>(uX vs).map (x :: ·)
 | .nil::vs=>(uX vs).map (.sl [] :: ·)
 | _::_=>Option.none
def E8 (vs:List V):V:=match EE vs with
 | some ds => .d (.agg ds)
 | Option.none => .agg vs
def bH:V->List V
 | .d (.agg ds)=>ds.map .d
 | .agg vs=>vs
 | v=>[v]
def sW:Value->V
 | .int k n => .d (.int k n)
 | .bool b => .d (.bool b)
 | .string s => .d (.str s)
 | .slice Option.none 0 0 => .nil
 | .pointer Option.none => .d .nilp
 | .map Option.none => .nilm
 | .nilIface => .nili
 | _ => .any
def valV:Value->V
 | .agg cs=>E8 (cs.toList.map sW)
 | .tuple vs=>if vs.size=0 then .none else .any
 | v=>sW v
def ev (sl:Nat->V):Operand->V
 | .tmp t=>sl t
 | .const v=>valV v
 | .func f => .fn f []
 | .global _ => .any
def bU (P:Program) (t:TypeId):Bool:=match P.underlying t with
 | some (.struct _) | some (.array _ _)=>true
 | _=>false
def szT (P:Program) (t:TypeId):Option Nat:=match P.info? t,P.underlying t with
 | some i,some _=>some i.size
 | _,_=>Option.none
def Al (P:Program) (t:TypeId) (f:Nat):Option Field:=match P.underlying t with
 | some (.struct fs)=>fs[f]?
 | _=>Option.none
def bG (P:Program) (t:TypeId):Option TypeId:=match P.underlying t with
 | some (.slice e)=>some e
 | _=>Option.none
def gM (v:V):Option Eff:=some ⟨[],[],v⟩
def rdD (agg:Bool) (size:Nat) (cs:List D):Option V :=
 bif agg then (bif Nat.ble size cs.length then some (.d (.agg (cs.take size)))else Option.none)
 else match cs with
  | c::_=>some (.d c)
  | []=>Option.none
def rdV (agg:Bool) (size:Nat) (cs:List V):Option V :=
 bif agg then (bif Nat.ble size cs.length then some (E8 (cs.take size))else Option.none)
 else match cs with
  | c::_=>some c
  | []=>Option.none
def vN (P:Program) (t:TypeId) (S:Store) (a:V):Option Eff :=
 match szT P t with
 | Option.none=>Option.none
 | some size =>
 match a with
 | .d (.ptr cs)=>(rdD (bU P t) size cs).bind gM
 | .ref n i j=>match S n with
  | some (.vec sz xs)=>match xs[i]? with
   | some cs=>(rdD (bU P t) size (cs.drop j)).map λv=>⟨[(n,.vec sz xs)],[],v⟩
   | Option.none=>Option.none
  | some (.froz sz xs)=>match xs[i]? with
   | some cs=>(rdD (bU P t) size (cs.drop j)).map λv=>⟨[(n,.froz sz xs)],[],v⟩
   | Option.none=>Option.none
  | some (.cells sz cs)=>(rdV (bU P t) size (cs.drop (i*sz+j))).map λv=>⟨[(n,.cells sz cs)],[],v⟩
  | _=>Option.none
 | _=>Option.none
def splice {α:Type} (cs new:List α) (o:Nat):List α:=cs.take o++new++cs.drop (o+new.length)
def kW:V->Bool
 | .d (.agg _) | .agg _ | .tup _ | .none | .any=>false
 | _=>true
def zo (P:Program) (t:TypeId) (S:Store) (a x:V):Option Eff :=
 match szT P t with
 | Option.none=>Option.none
 | some size =>
 match a with
 | .ref n i j=>match S n with
  | some (.cells sz cs) =>
   bif Nat.beq (bH x).length size&&Nat.ble (i*sz+j+size) cs.length&&(bH x).all kW&&Nat.blt sz 1048576 then
    some ⟨[(n,.cells sz cs)],[(n,some (.cells sz (splice cs (bH x) (i*sz+j))))],.none⟩
   else Option.none
  | some (.vec sz xs)=>match xs[i]?,uX (bH x)with
   | some cs,some new =>
    bif Nat.beq new.length size&&Nat.ble (j+size) cs.length&&(bH x).all kW then
     some ⟨[(n,.vec sz xs)],[(n,some (.vec sz (xs.set i (splice cs new j))))],.none⟩
    else Option.none
   | _,_=>Option.none
  | _=>Option.none
 | _=>Option.none
def zeroCells (P:Program) (t:TypeId):Option (List V):=((P.info? t).bind (·.zero)).map λv=>v.cells.toList.map sW
def Ae (P:Program) (t:TypeId) (dst:Nat) (tk:Nat):Option Eff :=
 match zeroCells P t with
 | some cs=>bif cs.all kW&&Nat.blt cs.length 1048576 then some ⟨[],[((dst,tk),some (.cells cs.length cs))],.ref (dst,tk) 0 0⟩else Option.none
 | Option.none=>Option.none
def zb (P:Program) (t:TypeId) (dst:Nat) (tk:Nat):Option Eff :=
 match zeroCells P t with
 | some [.d .nilp,.nil]=>some ⟨[],[((dst,tk),some (.cells (1048576+t) [.any,.nil]))],.ref (dst,tk) 0 0⟩
 | _=>Option.none
def Oe (v:V) (dst tk:Nat):Option Eff :=
 bif (bH v).all kW&&Nat.blt (bH v).length 1048576 then some ⟨[],[((dst,tk),some (.cells (bH v).length (bH v)))],.ref (dst,tk) 0 0⟩else Option.none
def Nf (op:BinOp) (k:IntKind) (a b:Int):Option D :=
 match op with
 | .add=>some (.int k (k.wrap (a+b)))
 | .sub=>some (.int k (k.wrap (a-b)))
 | .mul=>some (.int k (k.wrap (a*b)))
 | .quo=>if b=0 then Option.none else some (.int k (k.wrap (a.tdiv b)))
 | .rem=>if b=0 then Option.none else some (.int k (a.tmod b))
 | .and=>some (.int k (k.wrap (BitVec.ofInt k.bits a &&& BitVec.ofInt k.bits b).toNat))
 | .or=>some (.int k (k.wrap (BitVec.ofInt k.bits a ||| BitVec.ofInt k.bits b).toNat))
 | .xor=>some (.int k (k.wrap (BitVec.ofInt k.bits a ^^^ BitVec.ofInt k.bits b).toNat))
 | .eql=>some (.bool (a==b))
 | .neq=>some (.bool (a != b))
 | .lss=>some (.bool (a<b))
 | .leq=>some (.bool (a<=b))
 | .gtr=>some (.bool (a>b))
 | .geq=>some (.bool (a>=b))
 | _=>Option.none
def PV (op:BinOp) (x y:ByteArray):Option D :=
 match op with
 | .add=>if ((x.size+y.size:Nat):Int)>IntKind.i64.max then Option.none else some (.str (x++y))
 | .eql=>some (.bool (x.toList==y.toList))
 | .neq=>some (.bool !(x.toList==y.toList))
 | .lss=>some (.bool (Op.bytesLess x.toList y.toList))
 | .leq=>some (.bool (Op.bytesLess x.toList y.toList||x.toList==y.toList))
 | .gtr=>some (.bool !(Op.bytesLess x.toList y.toList||x.toList==y.toList))
 | .geq=>some (.bool !(Op.bytesLess x.toList y.toList))
 | _=>Option.none
def Ul (op:BinOp) (k:IntKind) (a b:Int):Option D :=
 if b<0 then Option.none else
 match op with
 | .shl=>some (.int k (k.wrap (a*2 ^ (min b.toNat k.bits))))
 | .shr=>some (.int k (a.fdiv (2 ^ (min b.toNat k.bits))))
 | _=>Option.none
def Jg:BinOp->Bool | .shl | .shr=>true | _=>false
def I7 (op:BinOp) (x y:V):Option V :=
 match x,y with
 | .d (.int k a),.d (.int k' b) =>
  bif Jg op then (Ul op k a b).map .d
  else if k=k' then (Nf op k a b).map .d else Option.none
 | .d (.str a),.d (.str b)=>(PV op a b).map .d
 | _,_=>Option.none
def unF (op:UnOp) (x:V):Option V :=
 match op,x with
 | .neg,.d (.int k n)=>some (.d (.int k (k.wrap (0-n))))
 | .not,.d (.bool b)=>some (.d (.bool !b))
 | _,_=>Option.none
def kr (P:Program) (t:TypeId) (x i:V):Option Eff :=
 match (bG P t).bind (szT P),i with
 | some size,.d (.int _ i) =>
  bif decide (0<=i)then
  match x with
  | .d (.sl xs)=>match xs[i.toNat]? with
   | some cs=>bif Nat.beq cs.length size then gM (.d (.ptr cs))else Option.none
   | Option.none=>Option.none
  | .vs n sz k len=>bif Nat.ble (i.toNat+1) len&&Nat.beq sz size then gM (.ref n (k+i.toNat) 0)else Option.none
  | _=>Option.none
  else Option.none
 | _,_=>Option.none
def kN (P:Program) (t:TypeId) (x:V) (f:Nat):Option Eff :=
 match Al P t f with
 | some h =>
  match szT P h.type with
  | some (_+1) =>
   match x with
   | .d (.ptr cs)=>bif Nat.ble h.offset cs.length then gM (.d (.ptr (cs.drop h.offset)))else Option.none
   | .ref n i j=>gM (.ref n i (j+h.offset))
   | _=>Option.none
  | _=>Option.none
 | Option.none=>Option.none
def KQ (P:Program) (t:TypeId) (x:V) (f:Nat):Option V :=
 match Al P t f with
 | some h=>match szT P h.type with
  | some size=>match x with
   | .d (.agg ds)=>rdD (bU P h.type) size (ds.drop h.offset)
   | .agg vs=>rdV (bU P h.type) size (vs.drop h.offset)
   | _=>Option.none
  | Option.none=>Option.none
 | Option.none=>Option.none
def BZ (f:Nat->Option (Nat×Nat)) (cells:List V):List (Nat×V)->Option (List V)
 | []=>some cells
 | (i,v)::rest=>match f i with
  | Option.none=>Option.none
  | some (off,size) =>
   bif Nat.beq (bH v).length size&&Nat.ble (off+size) cells.length then BZ f (splice cells (bH v) off) rest
   else Option.none
def bB (P:Program) (t:TypeId) (i:Nat):Option (Nat×Nat) :=
 match Al P t i with
 | some f=>(szT P f.type).map λs=>(f.offset,s)
 | Option.none=>Option.none
def isStruct (P:Program) (t:TypeId):Bool:=match P.underlying t with
 | some (.struct fs)=>fs.all λf=>(P.info? f.type).isSome
 | _=>false
def arrT (P:Program) (t:TypeId):Option Nat:=match P.underlying t with
 | some (.array _ e)=>szT P e
 | _=>Option.none
def KG (P:Program) (t:TypeId) (parts:List (Nat×V)):Option V :=
 bif isStruct P t then
  match zeroCells P t with
  | some z=>(BZ (bB P t) z parts).map E8
  | Option.none=>Option.none
 else match arrT P t,zeroCells P t with
  | some size,some z=>(BZ (λi=>some (i*size,size)) z parts).map E8
  | _,_=>Option.none
def wB (size:Nat):Nat->List (Nat×V)->Option (List (List D))
 | _,[]=>some []
 | k,(i,v)::rest=>match uX (bH v),wB size (k+1) rest with
  | some ds,some xs=>bif Nat.beq i k&&Nat.beq ds.length size&&(bH v).all kW then some (ds::xs)else Option.none
  | _,_=>Option.none
def uw (P:Program) (t:TypeId) (len:Nat) (parts:List (Nat×V)) (vm:Bool) (dst tk:Nat):Option Eff :=
 match (bG P t).bind (szT P)with
 | some size=>match wB size 0 parts with
  | some xs=>bif Nat.beq parts.length len&&Nat.ble (len*size) 16777216&&((bG P t).bind (zeroCells P)).isSome then
    (bif vm then some ⟨[],[((dst,tk),some (.vec size xs))],.vs (dst,tk) size 0 len⟩else bif Nat.beq len 0 then gM .nil else gM (.d (.sl xs)))
   else Option.none
  | Option.none=>Option.none
 | Option.none=>Option.none
def FM (P:Program) (t:TypeId) (x:V):Option V :=
 match P.underlying t,x with
 | some .string,.d (.str s)=>some (.d (.int .i64 s.size))
 | some (.slice _),.d (.sl xs)=>some (.d (.int .i64 xs.length))
 | some (.slice _),.nil=>some (.d (.int .i64 0))
 | some (.slice _),.vs _ _ _ len=>some (.d (.int .i64 len))
 | _,_=>Option.none
def DJ (x:V) (i:Nat):Option V:=match x with
 | .tup vs=>vs[i]?
 | _=>Option.none
def Ah (P:Program) (t:TypeId) (x i:V):Option V :=
 match P.underlying t,x,i with
 | some .string,.d (.str s),.d (.int _ i)=>bif decide (0<=i)then (s[i.toNat]?).map λb => .d (.int .u8 b.toNat)else Option.none
 | some (.array n e),.d (.agg ds),.d (.int _ i)=>match szT P e with
  | some size=>bif decide (0<=i)&&Nat.blt i.toNat n then rdD (bU P e) size (ds.drop (i.toNat*size))else Option.none
  | Option.none=>Option.none
 | _,_,_=>Option.none
def eqD (P:Program):Nat->TypeId->D->D->Option Bool
 | 0,_,_,_=>Option.none
 | n+1,t,x,y =>
  match P.underlying t,x,y with
  | some .bool,.bool a,.bool b=>some (a==b)
  | some (.int _),.int k a,.int k' b=>if k=k' then some (a==b)else Option.none
  | some .string,.str a,.str b=>some (a.toList==b.toList)
  | some (.struct fs),.agg xs,.agg ys =>
   bif P.stoodInHeld t then Option.none else
   fs.toList.foldr (λf h =>
    match szT P f.type,h with
    | some size,some r =>
     match rdD (bU P f.type) size (xs.drop f.offset),rdD (bU P f.type) size (ys.drop f.offset)with
     | some (.d a), some (.d b) => if f.name = "_" then some r else (eqD P n f.type a b).map (· && r)
     | _,_=>Option.none
    | _,_=>Option.none) (some true)
  | _,_,_=>Option.none
def sH (P:Program) (op:BinOp) (t:TypeId) (x y:V):Option V :=
 match x,y with
 | .d (.agg xs),.d (.agg ys) =>
  bif P.eqGuardType P.depth t then Option.none else
  match op with
  | .eql=>(eqD P 8 t (.agg xs) (.agg ys)).map λb => .d (.bool b)
  | .neq=>(eqD P 8 t (.agg xs) (.agg ys)).map λb => .d (.bool !b)
  | _=>Option.none
 | .d (.bool a),.d (.bool b) =>
  match P.underlying t,op with
  | some .bool,.eql=>some (.d (.bool (a==b)))
  | some .bool,.neq=>some (.d (.bool (!(a==b))))
  | _,_=>Option.none
 | x,y=>I7 op x y
def Js:Operand->Bool | .const _=>true | _=>false
def HV:V->Option Bool
 | .ref _ _ _=>some false
 | .d (.ptr _)=>some false
 | .d .nilp=>some true
 | _=>Option.none
def RY (P:Program) (op:BinOp) (t:TypeId) (x y:V):Option V :=
 match HV x,y with
 | some b,.d .nilp=>match P.underlying t,op with
  | some (.pointer _),.eql=>some (.d (.bool b))
  | some (.pointer _),.neq=>some (.d (.bool !b))
  | _,_=>Option.none
 | _,_=>Option.none
def RL (P:Program) (op:BinOp) (t:TypeId) (ox oy:Operand) (x y:V):Option V :=
 match x,y with
 | .nili,.nili =>
  bif Js ox||Js oy then
  match P.underlying t,op with
  | some (.interface _),.eql=>some (.d (.bool true))
  | some (.interface _),.neq=>some (.d (.bool false))
  | _,_=>Option.none
  else Option.none
 | x,y=>RY P op t x y
def DY (P:Program) (op:BinOp) (t:TypeId) (ox oy:Operand) (x y:V):Option V :=
 match sH P op t x y with
 | some v=>some v
 | Option.none=>RL P op t ox oy x y
theorem yE {P:Program} {op:BinOp} {t:TypeId} {ox oy:Operand} {x y v:V} (h:sH P op t x y=some v):DY P op t ox oy x y=some v:=by unfold DY;rw [h]
def Uh (c a b:V):Option V:=match c with
 | .d (.bool t)=>some (bif t then a else b)
 | _=>Option.none
def Bz (x:V):Option V:=match x with
 | .ref .. | .d (.ptr _)=>some x
 | .fn .. => some x
 | _=>Option.none
def zI (P:Program) (f dst:TypeId) (x:V):Option V :=
 match P.underlying f,P.underlying dst,x with
 | some _,some (.int k),.d (.int _ n)=>some (.d (.int k (k.wrap n)))
 | some _,some .string,.d (.str s)=>some (.d (.str s))
 | some (.int _),some .string,.d (.int _ n)=>some (.d (.str (Utf8.encode n)))
 | _,_,_=>Option.none
def rD (d:Nat):Option V->Option Nat
 | Option.none=>some d
 | some (.d (.int _ n))=>bif decide (0<=n)then some n.toNat else Option.none
 | _=>Option.none
def is0:Option V->Bool
 | some (.d (.int _ n))=>decide (n=0)
 | _=>false
def isNo0:Option V->Bool
 | Option.none=>true
 | v=>is0 v
def A8 (lo hi mx:Option V):Bool:=isNo0 lo&&(is0 hi&&is0 mx)
def isN (v:Option V) (n:Nat):Bool:=match v with
 | some (.d (.int _ k))=>decide (k=(n:Int))
 | _=>false
def Qy (lo hi mx:Option V) (n:Nat):Bool:=isNo0 lo&&(isN hi n&&isN mx n)
def mo (P:Program) (t:TypeId) (x:V) (lo hi mx:Option V):Option V :=
 match mx with
 | Option.none =>
  match P.underlying t,x with
  | some .string,.d (.str s) =>
   match rD 0 lo,rD s.size hi with
   | some l,some h=>if l<=h/\h<=s.size then some (.d (.str (s.extract l h)))else Option.none
   | _,_=>Option.none
  | some (.slice e),.d (.sl xs) =>
   match szT P e,rD 0 lo,rD xs.length hi with
   | some size,some l,some h =>
    if l<=h/\h<=xs.length/\xs.all (λx=>Nat.beq x.length size)=true then some (.d (.sl ((xs.take h).drop l)))else Option.none
   | _,_,_=>Option.none
  | some (.slice e),.vs n sz k len =>
   match szT P e,rD 0 lo,rD len hi with
   | some size,some l,some h=>if l<=h/\h<=len/\size=sz then some (.vs n sz (k+l) (h-l))else Option.none
   | _,_,_=>Option.none
  | some (.slice e),.nil =>
   match szT P e,rD 0 lo,rD 0 hi with
   | some _,some l,some h=>if l=0/\h=0 then some .nil else Option.none
   | _,_,_=>Option.none
  | _,_=>Option.none
 | some _ =>
  match P.underlying t,x with
  | some (.slice e),.d (.sl xs) =>
   match szT P e with
   | some _=>bif A8 lo hi mx then some .nil else bif Qy lo hi mx xs.length then some (.d (.sl xs))else Option.none
   | Option.none=>Option.none
  | some (.slice e),.vs _ _ _ _ | some (.slice e),.nil =>
   match szT P e with
   | some _=>bif A8 lo hi mx then some .nil else Option.none
   | Option.none=>Option.none
  | _,_=>Option.none
def fI (P:Program) (t:TypeId):Nat:=((P.info? t).map (·.bytes)).getD 0
def qM (P:Program) (t:TypeId) (l c:V) (dst tk:Nat):Option Eff :=
 match bG P t,l,c with
 | some e,.d (.int _ n),.d (.int _ m) =>
  match szT P e,zeroCells P e with
  | some size,some z =>
   if n=0/\n<=m/\m*fI P e<=2 ^ 48/\m<=2 ^ 48/\z.length=size/\0<size then some ⟨[],[((dst,tk),some (.vec size []))],.vs (dst,tk) size 0 0⟩
   else if 0<=n/\n=m/\n*fI P e<=2 ^ 48/\n<=2 ^ 48/\z.length=size/\0<size/\z.all kW=true then
    match EE z with
    | some ds=>some ⟨[],[((dst,tk),some (.vec size (List.replicate n.toNat ds)))],.vs (dst,tk) size 0 n.toNat⟩
    | Option.none=>if size=1 then some ⟨[],[((dst,tk),some (.cells 1 (List.replicate n.toNat (z.headD .any))))],.vs (dst,tk) 1 0 n.toNat⟩else Option.none
   else Option.none
  | _,_=>Option.none
 | _,_,_=>Option.none
def rH (S:Store) (size:Nat) (y:V):Option (List (List D)×List (Nm×Box)) :=
 match y with
 | .d (.sl ys)=>if ys.all (λx=>Nat.beq x.length size)=true then some (ys,[])else Option.none
 | .nil=>some ([],[])
 | .vs n sz k len=>match S n with
  | some (.vec f xs)=>if sz=size/\k+len<=xs.length then some ((xs.drop k).take len,[(n,.vec f xs)])else Option.none
  | some (.froz f xs)=>if sz=size/\k+len<=xs.length then some ((xs.drop k).take len,[(n,.froz f xs)])else Option.none
  | _=>Option.none
 | _=>Option.none
def nD (S:Store) (size:Nat) (y:V):Option (List (List D)×List (Nm×Box)) :=
 match y with
 | .d (.str s)=>if size=1 then some (s.data.toList.map (λb=>[D.int .u8 b.toNat]),[])else Option.none
 | y=>rH S size y
def N9 (P:Program) (t:TypeId):Option Unit:=match P.underlying t with
 | some (.slice _) | some .string=>some ()
 | _=>Option.none
def mf (P:Program) (t t':TypeId) (S:Store) (x y:V) (dst tk:Nat):Option Eff :=
 match bG P t,N9 P t' with
 | some e,some _ =>
  match szT P e,zeroCells P e with
  | some size,some z =>
   if z.length=size/\0<size then
   match nD S size y with
   | some (ys,req) =>
    match x with
    | .nil =>
     if (2*ys.length+192)*fI P e<=2 ^ 48/\ys.length<=2 ^ 48 then
      match ys with
      | []=>some ⟨req,[],.nil⟩
      | _::_=>some ⟨req,[((dst,tk),some (.vec size ys))],.vs (dst,tk) size 0 ys.length⟩
     else Option.none
    | .vs n sz k len =>
     match S n with
     | some (.vec f xs) =>
      if sz=size/\k+len=xs.length/\(2*(len+ys.length)+192)*fI P e<=2 ^ 48/\len+ys.length<=2 ^ 48 then
       match ys with
       | []=>some ⟨(n,.vec f xs)::req,[],.vs n sz k len⟩
       | _::_=>some ⟨(n,.vec f xs)::req,[(n,Option.none),((dst,tk),some (.vec size (xs.drop k++ys)))],.vs (dst,tk) size 0 (len+ys.length)⟩
      else Option.none
     | _=>Option.none
    | _=>Option.none
   | Option.none=>Option.none
   else Option.none
  | _,_=>Option.none
 | _,_=>Option.none
end Go.Eng

/-
  THE ENGINE: how data stand in memory: 'RepD', 'RepV', the store's boxes, and what of them stays where the memory grows.
-/
namespace Go.Eng
set_option linter.unusedSectionVars false
variable [DM]
structure Gh where
  imm:Nat->Nat->Prop
  mu:Nm->Option (Nat×Nat×Nat)
def bsize (w:World) (b:Nat):Nat:=match w.heap[b]? with
  | some (.cells c _ _)=>c.size
  | _=>0
inductive RepD (I:Nat->Nat->Prop) (w:World):Value->D->Prop
  | int (k:IntKind) (n:Int):RepD I w (.int k n) (.int k n)
  | bool (b:Bool):RepD I w (.bool b) (.bool b)
  | str (s:ByteArray):RepD I w (.string s) (.str s)
  | agg (arr:List Value) (ds:List D) (hl:arr.length=ds.length)
      (h:∀i (h1:i<arr.length) (h2:i<ds.length),RepD I w arr[i] ds[i]):RepD I w (.agg arr.toArray) (.agg ds)
  | sl0 (a:Option Addr) (cap:Nat):RepD I w (.slice a 0 cap) (.sl [])
  | sl (b off cap sz:Nat) (xs:List (List D)) (us:Nat->Nat->Value) (hcap:xs.length<=cap)
      (hsz:∀i (h:i<xs.length),xs[i].length=sz)
      (hI:∀i j,i<xs.length->j<sz->I b (off+i*sz+j))
      (hc:∀i j,i<xs.length->j<sz->w.cell? ⟨b,off+i*sz+j,none⟩=some (us i j))
      (ho:∀i j,i<xs.length->j<sz->(us i j).oneCell'=true)
      (h:∀i j (hi:i<xs.length) (hj:j<xs[i].length),RepD I w (us i j) xs[i][j]) :
      RepD I w (.slice (some ⟨b,off,none⟩) xs.length cap) (.sl xs)
  | ptr (b o:Nat) (cs:List D) (us:Nat->Value) (hI:∀j,j<cs.length->I b (o+j))
      (hc:∀j,j<cs.length->w.cell? ⟨b,o+j,none⟩=some (us j))
      (h:∀j (hj:j<cs.length),RepD I w (us j) cs[j]):RepD I w (.pointer (some ⟨b,o,none⟩)) (.ptr cs)
  | nilp:RepD I w (.pointer none) .nilp
inductive RepV (G:Gh) (w:World):Value->V->Prop
  | d {v:Value} {x:D} (h:RepD G.imm w v x):RepV G w v (.d x)
  | nil (a:Option Addr):RepV G w (.slice a 0 0) .nil
  | nilm:RepV G w (.map none) .nilm
  | nili:RepV G w .nilIface .nili
  | ref {n:Nm} {b o sz:Nat} (i j:Nat) (h:G.mu n=some (b,o,sz)):RepV G w (.pointer (some ⟨b,o+i*sz+j,none⟩)) (.ref n i j)
  | vs0 (n:Nm) (sz k:Nat) (a:Option Addr):RepV G w (.slice a 0 0) (.vs n sz k 0)
  | vs {n:Nm} {b o sz:Nat} (k len cap:Nat) (h:G.mu n=some (b,o,sz)) (hc:len<=cap) (hb:o+(k+cap)*sz<=bsize w b) :
      RepV G w (.slice (some ⟨b,o+k*sz,none⟩) len cap) (.vs n sz k len)
  | fn (f:FuncId) (arr:List Value) (vs:List V) (hl:arr.length=vs.length)
      (h:∀i (h1:i<arr.length) (h2:i<vs.length),RepV G w arr[i] vs[i]):RepV G w (.func (.func f) #[] arr.toArray) (.fn f vs)
  | agg (arr:List Value) (vs:List V) (hl:arr.length=vs.length)
      (h:∀i (h1:i<arr.length) (h2:i<vs.length),RepV G w arr[i] vs[i]):RepV G w (.agg arr.toArray) (.agg vs)
  | tup (arr:List Value) (vs:List V) (hl:arr.length=vs.length)
      (h:∀i (h1:i<arr.length) (h2:i<vs.length),RepV G w arr[i] vs[i]):RepV G w (.tuple arr.toArray) (.tup vs)
  | map {n:Nm} {b o sz:Nat} (h:G.mu n=some (b,o,sz)):RepV G w (.map (some b)) (.map n)
  | none:RepV G w undef .none
  | any (v:Value):RepV G w v .any
def elemAt (w:World) (b:Nat):Option TypeId:=match w.heap[b]? with | some (.cells _ e _)=>some e | _=>none
theorem q9 {w:World} {b:Nat} {arr:Array Value} {e:TypeId} {f:_} (h:w.heap[b]? = some (.cells arr e f)):elemAt w b=some e:=by unfold elemAt;rw [h]
theorem Mc {w w':World} {b:Nat} (h:w'.heap[b]? = w.heap[b]?):elemAt w' b=elemAt w b:=by unfold elemAt;rw [h]
structure Ext (G:Gh) (w:World) (G':Gh) (w':World):Prop where
  imm:∀b o,G.imm b o->G'.imm b o
  cell:∀b o,G.imm b o->w'.cell? ⟨b,o,Option.none⟩=w.cell? ⟨b,o,Option.none⟩
  mu:∀n x,G.mu n=some x->G'.mu n=some x
  size:∀b,bsize w b<=bsize w' b
  elem:∀b e,elemAt w b=some e->elemAt w' b=some e
  map:∀b arr clk,(∃o,G.imm b o)->w.heap[b]? = some (.map arr clk)->w'.heap[b]? = some (.map arr clk)
theorem Ext.refl (G:Gh) (w:World):Ext G w G w:=⟨λ_ _ h=>h,λ_ _ _=>rfl,λ_ _ h=>h,λ_=>Nat.le_refl _,λ_ _ h=>h,λ_ _ _ _ h=>h⟩
theorem Ext.trans {G G' f:Gh} {w w' w'':World} (h:Ext G w G' w') (k:Ext G' w' f w''):Ext G w f w'' :=
  ⟨λb o x=>k.imm b o (h.imm b o x),λb o x=>(k.cell b o (h.imm b o x)).trans (h.cell b o x),λn x e=>k.mu n x (h.mu n x e),
   λb=>Nat.le_trans (h.size b) (k.size b),λb e x=>k.elem b e (h.elem b e x),λb arr j ⟨o,x⟩ e=>k.map b arr j ⟨o,h.imm b o x⟩ (h.map b arr j ⟨o,x⟩ e)⟩
theorem RepD.ext {I F:Nat->Nat->Prop} {w w':World} {v:Value} {x:D} (h:RepD I w v x) (hI:∀b o,I b o->F b o)
    (hc:∀b o,I b o->w'.cell? ⟨b,o,Option.none⟩=w.cell? ⟨b,o,Option.none⟩):RepD F w' v x:=by
  induction h with
  | int k n=>exact .int k n
  | bool b=>exact .bool b
  | str s=>exact .str s
  | agg arr ds hl _ B=>exact .agg arr ds hl B
  | sl0 a cap=>exact .sl0 a cap
  | sl b off cap sz xs us hcap hsz f A ho _ B =>
    exact .sl b off cap sz xs us hcap hsz (λi j hi hj=>hI _ _ (f i j hi hj)) (λi j hi hj=>(hc _ _ (f i j hi hj)).trans (A i j hi hj)) ho B
  | nilp=>exact .nilp
  | ptr b o cs us f A _ B=>exact .ptr b o cs us (λj hj=>hI _ _ (f j hj)) (λj hj=>(hc _ _ (f j hj)).trans (A j hj)) B
theorem RepV.ext {G G':Gh} {w w':World} {v:Value} {x:V} (h:RepV G w v x) (e:Ext G w G' w'):RepV G' w' v x:=by
  induction h with
  | d h=>exact .d (h.ext e.imm e.cell)
  | nil a=>exact .nil a
  | nilm=>exact .nilm
  | nili=>exact .nili
  | ref i j h=>exact .ref i j (e.mu _ _ h)
  | vs0 n sz k a=>exact .vs0 n sz k a
  | vs k len cap h hc hb=>exact .vs k len cap (e.mu _ _ h) hc (Nat.le_trans hb (e.size _))
  | fn f arr vs hl _ o=>exact .fn f arr vs hl o
  | agg arr vs hl _ o=>exact .agg arr vs hl o
  | tup arr vs hl _ o=>exact .tup arr vs hl o
  | map h=>exact .map (e.mu _ _ h)
  | none=>exact .none
  | any v=>exact .any v
def Box.all:Box->List V
  | .vec _ xs | .froz _ xs=>(xs.map λx=>x.map V.d).flatten
  | .cells _ cs=>cs
  | _=>[]
def Box.sz:Box->Nat
  | .vec sz _ | .froz sz _ | .cells sz _=>sz
  | _=>0
def Box.row:Box->Bool
  | .vec _ _ | .froz _ _ | .cells _ _=>true
  | _=>false
def Box.even:Box->Prop
  | .vec sz xs | .froz sz xs=>∀x∈xs,x.length=sz
  | _=>True
def Box.mut:Box->Bool
  | .froz _ _=>false
  | _=>true
def bldB (w:World) (t b:Nat):Prop:=∃p v,w.heap[b]? = some (.cells #[p,v] t (0,0))/\(p = .pointer none\/p = .pointer (some ⟨b,0,none⟩))/\(v = .slice none 0 0\/∃g n cap,v = .slice (some ⟨g,0,none⟩) n cap/\0<cap/\elemAt w g=some byteK)
def celB (w:World) (bx:Box) (b o:Nat):Prop:=match bx with
  | .cells s _=>o=0/\(1048576<=s->bldB w (s-1048576) b)
  | _=>True
def celK (bx bx':Box) (off:Nat):Prop:=match bx' with
  | .cells s _=>(∃f,bx = .cells s f)/\s<1048576
  | _=>True
theorem celB.ext {w w':World} {bx:Box} {b o:Nat} (h:celB w bx b o) (hb:bx.mut=true->w'.heap[b]? = w.heap[b]?) (he:∀b e,elemAt w b=some e->elemAt w' b=some e):celB w' bx b o:=by
  cases bx with
  | cells s cs =>
    refine⟨h.1,λhs => ?_⟩
    obtain ⟨p,v,h1,h2,f⟩:=h.2 hs
    exact⟨p,v,(hb rfl).trans h1,h2,f.imp id fun⟨g,n,cap,B,j,A⟩=>⟨g,n,cap,B,j,he _ _ A⟩⟩
  | _=>exact trivial
structure Stands (G:Gh) (w:World) (bx:Box) (b o sz:Nat):Prop where
  sz:sz=bx.sz
  even:bx.even
  room:o+bx.all.length<=bsize w b
  cell:∀j (h:j<bx.all.length),∃u,w.cell? ⟨b,o+j,none⟩=some u/\u.oneCell'=true/\RepV G w u bx.all[j]
  free:bx.mut=true->(∃arr elem,w.heap[b]? = some (.cells arr elem (0,0)))/\∀o',¬G.imm b o'
  froz:bx.mut=false->∀j,j<bx.all.length->G.imm b (o+j)
  cel:celB w bx b o:=by exact trivial
def QM (G:Gh) (w:World) (es:List (D×D)) (b:Nat):Prop :=
  (∀f,¬G.imm b f)/\∃arr clock,(w.heap[b]? = some (.map arr clock)/\MapKept.Stamped arr clock)/\arr.size=es.length /\
    ∀i (h1:i<arr.size) (h2:i<es.length),RepD G.imm w arr[i].key es[i].1/\RepD G.imm w arr[i].val es[i].2
def OE (G:Gh) (w:World) (es:List (D×V)) (b:Nat):Prop :=
  (∀f,¬G.imm b f)/\∃arr clock,(w.heap[b]? = some (.map arr clock)/\MapKept.Stamped arr clock)/\arr.size=es.length /\
    ∀i (h1:i<arr.size) (h2:i<es.length),RepD G.imm w arr[i].key es[i].1/\RepV G w arr[i].val es[i].2
def nO (arr:Array MapEntry) (f:Array Nat):List MapEntry:=arr.toList.filter λe => !f.contains e.born
def Cw (G:Gh) (w:World) (cur:Option (D×V)) (left:List (D×V)) (b o:Nat):Prop :=
  (o=0/\∀h,¬G.imm b h)/\∃mb arr clock f,w.heap[b]? = some (.mapIter (some mb) clock f clock)/\(∃o,G.imm mb o)/\w.heap[mb]? = some (.map arr clock)/\MapKept.Stamped arr clock /\
    (nO arr f).length=left.length/\(∀i (h1:i<(nO arr f).length) (h2:i<left.length),RepD G.imm w (nO arr f)[i].key left[i].1/\RepV G w (nO arr f)[i].val left[i].2) /\
    ∀x,cur=some x->∃e∈arr.toList,(∃j:Array Nat,f=j.push e.born)/\RepD G.imm w e.key x.1/\RepV G w e.val x.2
def StandsBox (G:Gh) (w:World) (bx:Box) (b o sz:Nat):Prop:=match bx with
  | .map es=>QM G w es b
  | .pmap es=>OE G w es b
  | .iter cur left=>Cw G w cur left b o
  | bx=>Stands G w bx b o sz
def Kn (G:Gh) (w:World):Prop:=∃f:World,zH f/\∀b o,b<f.heap.size->G.imm b o/\w.cell? ⟨b,o,Option.none⟩=f.cell? ⟨b,o,Option.none⟩
theorem Kn.ext {G G':Gh} {w w':World} (h:Kn G w) (hI:∀b o,G.imm b o->G'.imm b o) (hc:∀b o,G.imm b o->w'.cell? ⟨b,o,Option.none⟩=w.cell? ⟨b,o,Option.none⟩):Kn G' w':=by
  obtain ⟨f,h1,h2⟩:=h
  exact⟨f,h1,λb o hb=>⟨hI _ _ (h2 b o hb).1,(hc _ _ (h2 b o hb).1).trans (h2 b o hb).2⟩⟩
structure Env where
  G:Gh
  w:World
  M:Nat->Prop
structure Inv (E:Env) (G:Gh) (w:World) (S:Store) (tk:Nat) (U:Nat->Prop):Prop where
  ext:Ext E.G E.w G w
  newI:∀b o,G.imm b o->E.G.imm b o\/E.w.heap.size<=b\/E.M b
  frame:∀b,b<E.w.heap.size->¬E.M b->w.heap[b]? = E.w.heap[b]?
  size:E.w.heap.size<=w.heap.size
  os:w.os=E.w.os
  tape:w.tape=E.w.tape
  output:w.output=E.w.output
  box:∀n bx,S n=some bx->∃b o sz,G.mu n=some (b,o,sz)/\StandsBox G w bx b o sz/\(bx.mut=true->E.w.heap.size<=b\/E.M b)
  one:∀n m bx by' b o sz o' sz',S n=some bx->S m=some by'->bx.mut=true->G.mu n=some (b,o,sz)->G.mu m=some (b,o',sz')->n=m
  tick:∀n x,G.mu n=some x->n.2<tk\/(n.2=tk/\U n.1)
  bound:∀n b o sz,G.mu n=some (b,o,sz)->b<w.heap.size
  immB:∀b o,G.imm b o->b<w.heap.size
  kn:Kn E.G E.w
  dr:dmK=true->E.w.drawn<=w.drawn
end Go.Eng

/-
  THE ENGINE: the steps of memory: a new row that is never written, a new box, a box that is written, frozen.
-/
namespace Go.Eng
set_option linter.unusedSectionVars false
variable [DM]
theorem Hr {w w':World} {b:Nat} (h:w'.heap[b]? = w.heap[b]?) (o:Nat):w'.cell? ⟨b,o,none⟩=w.cell? ⟨b,o,none⟩:=by
  simp [World.cell?,h]
theorem Og {w w':World} {b:Nat} (h:w'.heap[b]? = w.heap[b]?):bsize w' b=bsize w b:=by
  simp [bsize,h]
theorem alloc_old (w:World) (o:Obj) {b:Nat} (h:b<w.heap.size):(w.alloc o).heap[b]? = w.heap[b]? := by
  simp only [World.alloc,Array.getElem?_push];rw [if_neg (by omega)]
theorem jY (w:World) (o:Obj):(w.alloc o).heap[w.heap.size]? = some o:=by
  show (w.heap.push o)[w.heap.size]? = some o
  simp
theorem Jt (w:World) {b:Nat} (h:w.heap.size<=b):w.heap[b]? = none:=by simp [h]
theorem Ro (w:World) {b:Nat} (h:w.heap.size<=b):bsize w b=0:=by simp [bsize,Jt w h]
theorem EI {G G':Gh} {w w':World} (hi:∀b o,G.imm b o->G'.imm b o) (hb:∀b o,G.imm b o->b<w.heap.size)
    (j:∀n x,G.mu n=some x->G'.mu n=some x) (f:∀b,b<w.heap.size->(w'.heap[b]? = w.heap[b]? \/ ((∀o,¬G.imm b o)/\bsize w b<=bsize w' b/\∀e,elemAt w b=some e->elemAt w' b=some e))) :
    Ext G w G' w' where
  imm:=hi
  cell b o h:=by
    rcases f b (hb b o h)with e|e
    · exact Hr e o
    · exact absurd h (e.1 o)
  mu:=j
  size b:=by
    rcases Nat.lt_or_ge b w.heap.size with h|h
    · rcases f b h with e | e
      · rw [Og e];exact Nat.le_refl _
      · exact e.2.1
    · rw [Ro w h];exact Nat.zero_le _
  elem b e he:=by
    rcases Nat.lt_or_ge b w.heap.size with h|h
    · rcases f b h with k | k
      · rw [Mc k];exact he
      · exact k.2.2 e he
    · unfold elemAt at he;rw [Jt w h]at he;cases he
  map b arr clk:=fun⟨o,h⟩ e=>by
    rcases f b (hb b o h)with k|k
    · rw [k];exact e
    · exact absurd h (k.1 o)
theorem Stands.ext {G G':Gh} {w w':World} {bx:Box} {b o sz:Nat} (h:Stands G w bx b o sz) (e:Ext G w G' w')
    (hb:bx.mut=true->w'.heap[b]? = w.heap[b]?) (I:bx.mut=true->∀f,G'.imm b f->G.imm b f):Stands G' w' bx b o sz where
  sz:=h.sz
  even:=h.even
  room:=Nat.le_trans h.room (e.size b)
  cell j hj:=by
    obtain ⟨u,F,h1,B⟩:=h.cell j hj
    cases hm:bx.mut with
    | true=>exact⟨u,by rw [Hr (hb hm)];exact F,h1,B.ext e⟩
    | false=>exact⟨u,by rw [e.cell b (o+j) (h.froz hm j hj)];exact F,h1,B.ext e⟩
  free hm:=by
    obtain ⟨⟨arr,elem,J⟩,L⟩:=h.free hm
    exact⟨⟨arr,elem,by rw [hb hm];exact J⟩,λf A=>L f (I hm f A)⟩
  froz hm j hj:=e.imm _ _ (h.froz hm j hj)
  cel:=h.cel.ext hb e.elem
theorem StandsBox.ext {G G':Gh} {w w':World} {bx:Box} {b o sz:Nat} (h:StandsBox G w bx b o sz) (e:Ext G w G' w')
    (hb:bx.mut=true->w'.heap[b]? = w.heap[b]?) (B:bx.mut=true->∀f,G'.imm b f->G.imm b f):StandsBox G' w' bx b o sz:=by
  cases bx with
  | map es =>
    obtain ⟨A,arr,clock,h1,h2,I⟩:=h
    refine⟨λf j=>A f (B rfl f j),arr,clock,⟨by rw [hb rfl];exact h1.1,h1.2⟩,h2,λi a c => ?_⟩
    obtain ⟨J,F⟩:=I i a c
    exact⟨J.ext e.imm e.cell,F.ext e.imm e.cell⟩
  | pmap es =>
    obtain ⟨A,arr,clock,h1,h2,I⟩:=h
    refine⟨λf j=>A f (B rfl f j),arr,clock,⟨by rw [hb rfl];exact h1.1,h1.2⟩,h2,λi a c => ?_⟩
    obtain ⟨J,F⟩:=I i a c
    exact⟨J.ext e.imm e.cell,F.ext e⟩
  | iter cur left =>
    obtain ⟨A,mb,arr,clock,L,h1,⟨M,hi⟩,h2,I,J,F,W⟩:=h
    refine⟨⟨A.1,λf j=>A.2 f (B rfl f j)⟩,mb,arr,clock,L,by rw [hb rfl];exact h1,⟨M,e.imm _ _ hi⟩,e.map _ _ _ ⟨M,hi⟩ h2,I,J,λi a c => ?_,λx O => ?_⟩
    · exact⟨(F i a c).1.ext e.imm e.cell,(F i a c).2.ext e⟩
    · obtain ⟨Y,Z,R,N,T⟩:=W x O
      exact⟨Y,Z,R,N.ext e.imm e.cell,T.ext e⟩
  | vec sz xs=>exact Stands.ext h e hb B
  | froz sz xs=>exact Stands.ext h e hb B
  | cells sz xs=>exact Stands.ext h e hb B
theorem Inv.more {E:Env} {G G':Gh} {w w':World} {S:Store} {tk:Nat} {U U':Nat->Prop} (h:Inv E G w S tk U)
    (B:∀b,b<w.heap.size->w'.heap[b]? = w.heap[b]?) (hs:w.heap.size<=w'.heap.size)
    (L:w'.os=w.os) (Y:w'.tape=w.tape) (ho:w'.output=w.output)
    (hi:∀b o,G.imm b o->G'.imm b o) (M:∀b o,G'.imm b o->G.imm b o\/(w.heap.size<=b/\b<w'.heap.size)) (j:G'.mu=G.mu) (R:∀n,U n->U' n) (N:dmK=true->w.drawn<=w'.drawn:=by intro _;first | exact Nat.le_refl _ | (simp;done) | (simp;omega)) :
    Inv E G' w' S tk U'/\Ext G w G' w':=by
  have e:Ext G w G' w':=EI hi h.immB (λn x f=>by rw [j];exact f) (λb hb => .inl (B b hb))
  refine⟨⟨h.ext.trans e,?_,?_,Nat.le_trans h.size hs,L.trans h.os,Y.trans h.tape,ho.trans h.output,?_,?_,?_,?_,?_,h.kn,λk=>Nat.le_trans (h.dr k) (N k)⟩,e⟩
  · intro b o hb
    rcases M b o hb with hb|hb
    · exact h.newI b o hb
    · exact .inr (.inl (Nat.le_trans h.size hb.1))
  · intro b hb W
    rw [B b (Nat.lt_of_lt_of_le hb h.size)];exact h.frame b hb W
  · intro n bx hbx
    obtain ⟨b,o,sz,h1,h2,O⟩:=h.box n bx hbx
    have hb:=h.bound n b o sz h1
    exact⟨b,o,sz,by rw [j];exact h1,h2.ext e (λ_=>B b hb) (λ_ A I=>(M b A I).resolve_right (by omega)),O⟩
  · intro n m bx F b o sz A J T a2 a3 a4 a5
    rw [j]at a4 a5
    exact h.one n m bx F b o sz A J T a2 a3 a4 a5
  · intro n x f
    rw [j]at f
    exact (h.tick n x f).imp id (fun⟨a,c⟩=>⟨a,R _ c⟩)
  · intro n b o sz f
    rw [j]at f
    exact Nat.lt_of_lt_of_le (h.bound n b o sz f) hs
  · intro b o hb
    rcases M b o hb with hb|hb
    · exact Nat.lt_of_lt_of_le (h.immB b o hb) hs
    · exact hb.2
theorem Inv.allocImm {E:Env} {G:Gh} {w:World} {S:Store} {tk:Nat} {U U':Nat->Prop} (h:Inv E G w S tk U) (arr:Array Value) (elem:TypeId) (f:∀n,U n->U' n) :
    Inv E ⟨λb o=>G.imm b o\/(b=w.heap.size/\o<arr.size),G.mu⟩ (w.alloc (.cells arr elem)) S tk U' /\
    Ext G w ⟨λb o=>G.imm b o\/(b=w.heap.size/\o<arr.size),G.mu⟩ (w.alloc (.cells arr elem)) :=
  h.more (λ_ hb=>alloc_old w _ hb) (by simp) rfl rfl rfl (λ_ _ h => .inl h)
    (λb o hb=>hb.imp id (fun⟨e,_⟩=>by subst e;exact⟨Nat.le_refl _,by simp⟩)) rfl f
theorem Inv.allocBox {E:Env} {G:Gh} {w:World} {S:Store} {tk:Nat} {U:Nat->Prop} (h:Inv E G w S tk U) (dst:Nat) (hd:¬U dst)
    (o:Obj) (bx:Box)
    (hst:∀G',(∀b o,G'.imm b o↔G.imm b o)->Ext G w G' (w.alloc o)->StandsBox G' (w.alloc o) bx w.heap.size 0 bx.sz) :
    Inv E ⟨G.imm,λm=>if m=(dst,tk)then some (w.heap.size,0,bx.sz)else G.mu m⟩ (w.alloc o) (supd S (dst,tk) (some bx)) tk (λu=>U u\/u=dst) /\
    Ext G w ⟨G.imm,λm=>if m=(dst,tk)then some (w.heap.size,0,bx.sz)else G.mu m⟩ (w.alloc o):=by
  have hnew:G.mu (dst,tk)=none:=by
    cases hx:G.mu (dst,tk)with
    | none=>rfl
    | some x => rcases h.tick _ _ hx with h1 | ⟨_, h1⟩
                · exact absurd h1 (Nat.lt_irrefl _)
                · exact absurd h1 hd
  have e:Ext G w ⟨G.imm,λm=>if m=(dst,tk)then some (w.heap.size,0,bx.sz)else G.mu m⟩ (w.alloc o) :=
    EI (λ_ _ h=>h) h.immB (λn x hx=>by
      show (if n=(dst,tk)then _ else G.mu n)=_
      rw [if_neg (λe=>by rw [e,hnew]at hx;cases hx)];exact hx) (λb hb => .inl (alloc_old w _ hb))
  refine⟨⟨h.ext.trans e,h.newI,?_,Nat.le_trans h.size (by simp),h.os,h.tape,h.output,?_,?_,?_,?_,?_,h.kn,h.dr⟩,e⟩
  · intro b hb hM
    rw [alloc_old w _ (Nat.lt_of_lt_of_le hb h.size)];exact h.frame b hb hM
  · intro n by' hby
    by_cases hn:n=(dst,tk)
    · subst hn
      simp only [supd,if_true,so_]at hby
      subst hby
      exact⟨w.heap.size,0,bx.sz,by simp,hst _ (λ_ _=>Iff.rfl) e,λ_ => .inl h.size⟩
    · simp only [supd,hn,if_false]at hby
      obtain ⟨b,o',sz,h1,h2,h3⟩:=h.box n by' hby
      have hb:=h.bound n b o' sz h1
      exact⟨b,o',sz,by simp [hn,h1],h2.ext e (λ_=>alloc_old w _ hb) (λ_ _ h=>h),h3⟩
  · intro n m bx1 by1 b o1 sz1 o2 sz2 a1 a2 a3 a4 a5
    simp only at a4 a5
    by_cases hn:n=(dst,tk)
    · by_cases hm:m=(dst,tk)
      · rw [hn,hm]
      · simp only [hn,if_true,so_,Prod.mk.injEq]at a4
        simp only [hm,if_false]at a5
        have:=h.bound _ _ _ _ a5
        omega
    · by_cases hm:m=(dst,tk)
      · simp only [hm,if_true,so_,Prod.mk.injEq]at a5
        simp only [hn,if_false]at a4
        have:=h.bound _ _ _ _ a4
        omega
      · simp only [hn,hm,if_false]at a4 a5
        simp only [supd,hn,hm,if_false]at a1 a2
        exact h.one n m bx1 by1 b o1 sz1 o2 sz2 a1 a2 a3 a4 a5
  · intro n x hx
    simp only at hx
    by_cases hn:n=(dst,tk)
    · subst hn;exact .inr ⟨rfl,.inr rfl⟩
    · simp only [hn,if_false]at hx
      exact (h.tick n x hx).imp id (fun⟨a,c⟩=>⟨a,.inl c⟩)
  · intro n b o1 sz1 hx
    simp only at hx
    by_cases hn:n=(dst,tk)
    · simp only [hn,if_true,so_,Prod.mk.injEq]at hx
      simp;omega
    · simp only [hn,if_false]at hx
      have:=h.bound n b o1 sz1 hx
      simp;omega
  · intro b o1 hb
    have:=h.immB b o1 hb
    simp;omega
theorem Inv.write {E:Env} {G:Gh} {w w':World} {S:Store} {tk:Nat} {U:Nat->Prop} (h:Inv E G w S tk U) {n:Nm} {bx:Box} {b o sz:Nat}
    (hS:S n=some bx) (j:bx.mut=true) (M:G.mu n=some (b,o,sz))
    (O:∀b',b'≠b->w'.heap[b']? = w.heap[b']?) (hsz:w'.heap.size=w.heap.size) (N:bsize w b<=bsize w' b) (hel:∀e,elemAt w b=some e->elemAt w' b=some e) (F:∀I,¬G.imm b I)
    (R:w'.os=w.os) (ht:w'.tape=w.tape) (ho:w'.output=w.output)
    (bx':Box) (T:Ext G w G w'->StandsBox G w' bx' b o sz) (hdr:dmK=true->w.drawn<=w'.drawn:=by intro _;first | exact Nat.le_refl _ | (simp;done) | (simp;omega)) :
    Inv E G w' (supd S n (some bx')) tk U/\Ext G w G w':=by
  have e:Ext G w G w':=EI (λ_ _ h=>h) h.immB (λ_ _ h=>h) (λb' _=>by
    by_cases hb:b'=b
    · subst hb;exact .inr ⟨F,N,hel⟩
    · exact .inl (O b' hb))
  obtain ⟨b₁,o₁,sz₁,k1,k2,k3⟩:=h.box n bx hS
  rw [M]at k1
  simp only [so_,Prod.mk.injEq]at k1
  obtain ⟨rfl,rfl,rfl⟩:=k1
  refine⟨⟨h.ext.trans e,h.newI,?_,by rw [hsz];exact h.size,R.trans h.os,ht.trans h.tape,ho.trans h.output,?_,?_,h.tick,?_,?_,h.kn,λk=>Nat.le_trans (h.dr k) (hdr k)⟩,e⟩
  · intro b' hb hM
    rw [O b' (λJ=>by subst J;rcases k3 j with h1 | h1;exact absurd hb (by omega);exact hM h1)]
    exact h.frame b' hb hM
  · intro m f A
    by_cases hm:m=n
    · subst hm
      simp only [supd,if_true,so_]at A
      subst A
      exact⟨b,o,sz,M,T e,λ_=>k3 j⟩
    · simp only [supd,hm,if_false]at A
      obtain ⟨b',I,B,h1,h2,h3⟩:=h.box m f A
      have Y:b'≠b:=λJ=>by subst J;exact hm (h.one n m bx f b' o sz I B hS A j M h1).symm
      exact⟨b',I,B,h1,h2.ext e (λ_=>O b' Y) (λ_ _ h=>h),h3⟩
  · intro n1 m1 bx1 by1 b1 o1 sz1 o2 W a1 a2 a3 a4 a5
    have get:∀{m f},supd S n (some bx') m=some f->∃L,S m=some L/\(f.mut=true->L.mut=true):=by
      intro m f J
      by_cases hm:m=n
      · subst hm;exact⟨bx,hS,λ_=>j⟩
      · simp only [supd,hm,if_false]at J;exact⟨f,J,id⟩
    obtain ⟨bx2,c1,c2⟩:=get a1
    obtain ⟨Z,c3,_⟩:=get a2
    exact h.one n1 m1 bx2 Z b1 o1 sz1 o2 W c1 c3 (c2 a3) a4 a5
  · intro m b' I B J;rw [hsz];exact h.bound m b' I B J
  · intro b' I hb;rw [hsz];exact h.immB b' I hb
theorem Inv.freeze {E:Env} {G:Gh} {w:World} {S:Store} {tk:Nat} {U:Nat->Prop} (h:Inv E G w S tk U) {n:Nm} {sz:Nat} {xs:List (List D)} {b o:Nat}
    (W:S n=some (.vec sz xs)) (J:G.mu n=some (b,o,sz)) :
    Inv E ⟨λb' f=>G.imm b' f\/(b'=b/\o<=f/\f<o+(Box.vec sz xs).all.length),G.mu⟩ w (supd S n (some (.froz sz xs))) tk U /\
    Ext G w ⟨λb' f=>G.imm b' f\/(b'=b/\o<=f/\f<o+(Box.vec sz xs).all.length),G.mu⟩ w:=by
  have e:Ext G w ⟨λb' f=>G.imm b' f\/(b'=b/\o<=f/\f<o+(Box.vec sz xs).all.length),G.mu⟩ w :=
    EI (λ_ _ h => .inl h) h.immB (λ_ _ h=>h) (λ_ _ => .inl rfl)
  obtain ⟨b₁,o₁,sz₁,Z,k2,k3⟩:=h.box n _ W
  rw [J]at Z
  simp only [so_,Prod.mk.injEq]at Z
  obtain ⟨rfl,rfl,rfl⟩:=Z
  have I:Stands G w (.vec sz xs) b o sz:=k2
  refine⟨⟨h.ext.trans e,?_,h.frame,h.size,h.os,h.tape,h.output,?_,?_,h.tick,h.bound,?_,h.kn,h.dr⟩,e⟩
  · intro b' f hb
    rcases hb with hb|⟨rfl,_,_⟩
    · exact h.newI b' f hb
    · exact .inr (k3 rfl)
  · intro m A B
    by_cases hm:m=n
    · subst hm
      simp only [supd,if_true,so_]at B
      subst B
      refine⟨b,o,sz,J,?_,λF=>by cases F⟩
      exact { sz := I.sz, even := I.even, room := I.room, cell := fun j hj => by
                obtain ⟨u,hu,h1,hr⟩:=I.cell j hj
                exact⟨u,hu,h1,hr.ext e⟩
              free:=λF=>(by cases F),froz:=λ_ j hj => .inr ⟨rfl,by omega,by show o+j<o+(Box.vec sz xs).all.length;exact Nat.add_lt_add_left hj o⟩ }
    · simp only [supd,hm,if_false]at B
      obtain ⟨b',f,M,h1,h2,h3⟩:=h.box m A B
      have O:b'≠b:=λF=>by subst F;exact hm (h.one n m _ A b' o sz f M W B rfl J h1).symm
      exact⟨b',f,M,h1,h2.ext e (λ_=>rfl) (λ_ o'' F=>F.resolve_right (λhy=>O hy.1)),h3⟩
  · intro n1 m1 bx1 by1 b1 o1 Y o2 N a1 a2 a3 a4 a5
    have get:∀{m A},supd S n (some (.froz sz xs)) m=some A->∃L,S m=some L/\(A.mut=true->L.mut=true):=by
      intro m A F
      by_cases hm:m=n
      · subst hm;exact⟨_,W,λ_=>rfl⟩
      · simp only [supd,hm,if_false]at F;exact⟨A,F,id⟩
    obtain ⟨T,c1,c2⟩:=get a1
    obtain ⟨R,c3,_⟩:=get a2
    exact h.one n1 m1 T R b1 o1 Y o2 N c1 c3 (c2 a3) a4 a5
  · intro b' f hb
    rcases hb with hb|⟨rfl,_,_⟩
    · exact h.immB b' f hb
    · exact h.bound n b' o sz J
end Go.Eng

/-
  THE ENGINE: what a load reads.
-/
namespace Go.Eng
set_option linter.unusedSectionVars false
variable [DM]
variable {P:Program}
theorem yh {t:TypeId} {s:Nat} (h:szT P t=some s):∃i d,P.info? t=some i/\i.size=s/\P.underlying t=some d:=by
 unfold szT at h
 split at h
 ·rename_i i d h1 h2
  simp only [so_]at h
  exact⟨i,d,h1,h,h2⟩
 ·cases h
theorem run_sizeOf {t:TypeId} {s:Nat} (h:szT P t=some s) (w:World):(sizeOf t).run P w = .ok s w:=by
 obtain ⟨i,d,h1,h2,_⟩:=yh h
 simp [sizeOf,typeInfo,h1,h2]
theorem bn {t:TypeId} {d:TypeDesc} (h:P.underlying t=some d) (w:World):(underlying t).run P w = .ok d w:=by
 simp [underlying,h]
theorem Ez {t:TypeId} {s:Nat} (h:szT P t=some s) (w:World):(isAgg t).run P w = .ok (bU P t) w:=by
 obtain ⟨i,d,_,_,f⟩:=yh h
 unfold isAgg bU
 simp only [Sem.run_bind,bn f,Result.andThen_ok,f]
 cases d <;> rfl
theorem addr_add (b o n:Nat):(⟨b,o,none⟩:Addr).add n=⟨b,o+n,none⟩:=by
 unfold Addr.add;split <;> simp_all
theorem zB {t:TypeId} {s:Nat} (h:szT P t=some s) (f:bU P t=true) (w:World) (b o:Nat) (us:List Value) (hl:us.length=s)
  (hc:∀j (hj:j<us.length),w.cell? ⟨b,o+j,none⟩=some us[j]):(loadVar t ⟨b,o,none⟩).run P w = .ok (.agg us.toArray) w:=by
 have h1:=run_loadCells_list (P:=P) w ⟨b,o,none⟩ us (λj v A=>by
  obtain ⟨hj,e⟩:=List.getElem?_eq_some_iff.1 A
  rw [addr_add,hc j hj,e])
 subst hl
 simp only [loadVar,Sem.run_bind,Ez h,Result.andThen_ok,f,if_true,run_sizeOf h,h1,Sem.run_pure]
theorem zF {t:TypeId} {s:Nat} (h:szT P t=some s) (f:bU P t=false) (w:World) (b o:Nat) (u:Value)
  (hc:w.cell? ⟨b,o,none⟩=some u):(loadVar t ⟨b,o,none⟩).run P w = .ok u w:=by
 simp only [loadVar,Sem.run_bind,Ez h,Result.andThen_ok,f,Bool.false_eq_true,if_false,run_load,hc]
theorem qw {α:Type} (f:Nat->α) (n j:Nat) (h:j<((List.range n).map f).length):((List.range n).map f)[j]=f j:=by simp
theorem RepD.aggOf {I:Nat->Nat->Prop} {w:World} (us:Nat->Value) (ds:List D) (h:∀j (hj:j<ds.length),RepD I w (us j) ds[j]) :
  RepD I w (.agg ((List.range ds.length).map us).toArray) (.agg ds) :=
 .agg _ ds (by simp) (λi h1 h2=>by rw [qw];exact h i h2)
theorem RepV.aggOf {G:Gh} {w:World} (us:Nat->Value) (vs:List V) (h:∀j (hj:j<vs.length),RepV G w (us j) vs[j]) :
  RepV G w (.agg ((List.range vs.length).map us).toArray) (.agg vs) :=
 .agg _ vs (by simp) (λi h1 h2=>by rw [qw];exact h i h2)
theorem Et:∀{vs:List V} {ds:List D},EE vs=some ds->vs=ds.map .d
 | [],ds,h=>by simp [EE]at h;subst h;rfl
 | v::vs,ds,h=>by
  cases v with
  | d x =>
   simp only [EE,Option.map_eq_some_iff]at h
   obtain ⟨f,h1,rfl⟩:=h
   rw [Et h1];rfl
  | _=>simp [EE]at h
theorem RepV.d_inv {G:Gh} {w:World} {v:Value} {x:D} (h:RepV G w v (.d x)):RepD G.imm w v x:=by
 cases h with | d h=>exact h
theorem tq {G:Gh} {w:World} {arr:List Value} {vs:List V} (hl:arr.length=vs.length)
  (h:∀i (h1:i<arr.length) (h2:i<vs.length),RepV G w arr[i] vs[i]):RepV G w (.agg arr.toArray) (E8 vs):=by
 unfold E8
 split
 ·rename_i ds f
  have:=Et f
  subst this
  exact .d (.agg arr ds (by simpa using hl) (λi h1 h2=>by
   have:=h i h1 (by simpa using h2)
   rw [List.getElem_map]at this
   exact this.d_inv))
 ·exact .agg arr vs hl h
theorem Em {G:Gh} {w:World} {t:TypeId} {size:Nat} (hsz:szT P t=some size) (b o:Nat) (cs:List D) (us:Nat->Value)
  (hc:∀j,j<cs.length->w.cell? ⟨b,o+j,none⟩=some (us j)) (h:∀j (hj:j<cs.length),RepD G.imm w (us j) cs[j]) {v:V}
  (f:rdD (bU P t) size cs=some v):∃u,(loadVar t ⟨b,o,none⟩).run P w = .ok u w/\RepV G w u v:=by
 unfold rdD at f
 cases ha:bU P t with
 | true =>
  simp only [ha,cond_true]at f
  cases hle:Nat.ble size cs.length with
  | false=>simp [hle]at f
  | true =>
   simp only [hle,cond_true,so_]at f
   subst f
   have A:size<=cs.length:=Nat.le_of_ble_eq_true hle
   refine⟨_,zB hsz ha w b o ((List.range size).map us) (by simp) (λj hj => ?_),.d ?_⟩
   ·simp only [List.length_map,List.length_range]at hj
    rw [qw,hc j (by omega)]
   ·have e:size=(cs.take size).length:=by simp;omega
    conv=>arg 3;rw [e]
    exact RepD.aggOf us _ (λj hj=>by
     simp only [List.length_take]at hj
     rw [List.getElem_take];exact h j (by omega))
 | false =>
  simp only [ha,cond_false]at f
  cases cs with
  | nil=>simp at f
  | cons c cs =>
   simp only [so_]at f
   subst f
   have B:=hc 0 (by simp)
   exact⟨us 0,zF hsz ha w b o (us 0) (by simpa using B),.d (h 0 (by simp))⟩
theorem Rk {G:Gh} {w:World} {t:TypeId} {size:Nat} (hsz:szT P t=some size) (b o:Nat) (cs:List V) (us:Nat->Value)
  (hc:∀j,j<cs.length->w.cell? ⟨b,o+j,none⟩=some (us j)) (h:∀j (hj:j<cs.length),RepV G w (us j) cs[j]) {v:V}
  (f:rdV (bU P t) size cs=some v):∃u,(loadVar t ⟨b,o,none⟩).run P w = .ok u w/\RepV G w u v:=by
 unfold rdV at f
 cases ha:bU P t with
 | true =>
  simp only [ha,cond_true]at f
  cases hle:Nat.ble size cs.length with
  | false=>simp [hle]at f
  | true =>
   simp only [hle,cond_true,so_]at f
   subst f
   have A:size<=cs.length:=Nat.le_of_ble_eq_true hle
   refine⟨_,zB hsz ha w b o ((List.range size).map us) (by simp) (λj hj => ?_),tq (by simp;omega) (λi h1 h2 => ?_)⟩
   ·simp only [List.length_map,List.length_range]at hj
    rw [qw,hc j (by omega)]
   ·rw [qw,List.getElem_take]
    simp at h1
    exact h i (by omega)
 | false =>
  simp only [ha,cond_false]at f
  cases cs with
  | nil=>simp at f
  | cons c cs =>
   simp only [so_]at f
   subst f
   have B:=hc 0 (by simp)
   exact⟨us 0,zF hsz ha w b o (us 0) (by simpa using B),h 0 (by simp)⟩
theorem flat_get {α:Type} (sz:Nat):∀(xs:List (List α)),(∀x∈xs,x.length=sz)->∀(i j:Nat) (hi:i<xs.length) (hj:j<xs[i].length),
  ∃h:i*sz+j<xs.flatten.length,xs.flatten[i*sz+j]=xs[i][j]
 | [],_,i,_,hi,_=>absurd hi (Nat.not_lt_zero i)
 | x::xs,he,0,j,hi,hj=>by
  have f:j<x.length:=hj
  refine⟨by simp;omega,?_⟩
  simp only [List.flatten_cons,Nat.zero_mul,Nat.zero_add]
  rw [List.getElem_append_left f];rfl
 | x::xs,he,i+1,j,hi,hj=>by
  have B:x.length=sz:=he x (by simp)
  have o:i<xs.length:=by simpa using hi
  have f:j<xs[i].length:=by simpa using hj
  obtain ⟨h1,h2⟩:=flat_get sz xs (λy A=>he y (by simp [A])) i j o f
  have e:(i+1)*sz+j=x.length+(i*sz+j):=by rw [Nat.succ_mul];omega
  refine⟨by simp only [List.flatten_cons,List.length_append];omega,?_⟩
  simp only [List.flatten_cons,e]
  rw [List.getElem_append_right (by omega)]
  simp only [Nat.add_sub_cancel_left]
  rw [h2];rfl
theorem tQ {α:Type} (sz:Nat):∀(xs:List (List α)),(∀x∈xs,x.length=sz)->xs.flatten.length=xs.length*sz
 | [],_=>by simp
 | x::xs,he=>by
  rw [List.flatten_cons,List.length_append,he x (by simp),tQ sz xs (λy f=>he y (by simp [f])),List.length_cons,Nat.succ_mul,Nat.add_comm]
theorem Stands.elem {G:Gh} {w:World} {bx:Box} {xs:List (List D)} {b o sz:Nat} (h:Stands G w bx b o sz)
  (hb:bx = .vec sz xs\/bx = .froz sz xs) (i:Nat) (hi:i<xs.length) :
  xs[i].length=sz/\∃us:Nat->Value,(∀j,j<xs[i].length->w.cell? ⟨b,o+i*sz+j,none⟩=some (us j)/\(us j).oneCell'=true)/\∀j (hj:j<xs[i].length),RepD G.imm w (us j) xs[i][j]:=by
 have B:bx.all=(xs.map λx=>x.map V.d).flatten:=by rcases hb with rfl | rfl <;> rfl
 have A:∀x∈xs,x.length=sz:=by rcases hb with rfl | rfl <;> exact h.even
 refine⟨A _ (List.getElem_mem hi),?_⟩
 have I:∀x∈xs.map (λx=>x.map V.d),x.length=sz:=by
  intro x M
  obtain ⟨y,L,rfl⟩:=List.mem_map.1 M
  rw [List.length_map];exact A y L
 have f:∀j (hj:j<xs[i].length),∃u,(w.cell? ⟨b,o+i*sz+j,none⟩=some u/\u.oneCell'=true)/\RepD G.imm w u xs[i][j]:=by
  intro j hj
  obtain ⟨h1,h2⟩:=flat_get sz _ I i j (by simpa using hi) (by simpa using hj)
  have F:i*sz+j<bx.all.length:=by rw [B];exact h1
  obtain ⟨u,N,ho,J⟩:=h.cell (i*sz+j) F
  have e:bx.all[i*sz+j]=V.d xs[i][j]:=by
   have:bx.all[i*sz+j]? = some (V.d xs[i][j]):=by
    rw [B,List.getElem?_eq_getElem h1,h2];simp
   rw [List.getElem?_eq_getElem F]at this
   exact Option.some.inj this
  rw [e]at J
  exact⟨u,⟨by rw [show o+i*sz+j=o+(i*sz+j) by omega];exact N,ho⟩,J.d_inv⟩
 refine⟨λj=>if hj:j<xs[i].length then (f j hj).choose else undef,λj hj => ?_,λj hj => ?_⟩
 ·simp only [hj,dif_pos];exact (f j hj).choose_spec.1
 ·simp only [hj,dif_pos];exact (f j hj).choose_spec.2
theorem Stands.run {G:Gh} {w:World} {cs:List V} {b o sz s:Nat} (h:Stands G w (.cells s cs) b o sz) :
  ∃us:Nat->Value,(∀j,j<cs.length->w.cell? ⟨b,o+j,none⟩=some (us j))/\∀j (hj:j<cs.length),RepV G w (us j) cs[j]:=by
 have f:∀j (hj:j<cs.length),∃u,w.cell? ⟨b,o+j,none⟩=some u/\RepV G w u cs[j]:=λj hj=>let ⟨u,a,_,c⟩:=h.cell j hj;⟨u,a,c⟩
 refine⟨λj=>if hj:j<cs.length then (f j hj).choose else undef,λj hj => ?_,λj hj => ?_⟩
 ·simp only [hj,dif_pos];exact (f j hj).choose_spec.1
 ·simp only [hj,dif_pos];exact (f j hj).choose_spec.2
end Go.Eng

/-
  THE ENGINE: each operation does on memory what its computed effect says: loads, stores, addresses, arithmetic.
-/
namespace Go.Eng
set_option linter.unusedSectionVars false
variable [DM]
variable {P:Program}
theorem Inv.mono {E:Env} {G:Gh} {w:World} {S:Store} {tk:Nat} {U U':Nat->Prop} (h:Inv E G w S tk U) (j:∀n,U n->U' n):Inv E G w S tk U' :=
  { h with tick:=λn x f=>(h.tick n x f).imp id (fun⟨a,c⟩=>⟨a,j _ c⟩) }
def eG (P:Program) (E:Env) (s:Sem Next) (dst:Option Nat) (G:Gh) (w:World) (S:Store) (tk:Nat) (U:Nat->Prop) (A:Eff):Prop :=
  ∃f u w' G',s.run P w = .ok f w'/\(f = .value u\/(f = .skip/\u=undef))/\Ext G w G' w' /\
    Inv E G' w' (fo S A.upd) tk (λn=>U n\/dst=some (n % 100000))/\RepV G' w' u A.val
section
variable {E:Env} {G:Gh} {w:World} {S:Store} {tk:Nat} {U:Nat->Prop} {dst:Option Nat}
theorem eG.still (h:Inv E G w S tk U) {s:Sem Value} {u:Value} {v:V} {req:List (Nm×Box)} (j:s.run P w = .ok u w) (f:RepV G w u v) :
    eG P E (do pure (.value (<- s))) dst G w S tk U ⟨req,[],v⟩ :=
  ⟨.value u,u,w,G,by simp [j],.inl rfl,Ext.refl G w,h.mono (λ_ x => .inl x),f⟩
theorem fV {v:V} {A:Eff} (h:gM v=some A):A=⟨[],[],v⟩:=by
  simp [gM]at h;exact h.symm
theorem Inv.stands (h:Inv E G w S tk U) {n:Nm} {bx:Box} (B:S n=some bx) {b o sz:Nat} (f:G.mu n=some (b,o,sz)):StandsBox G w bx b o sz/\(bx.mut=true->E.w.heap.size<=b\/E.M b):=by
  obtain ⟨b',F,j,h1,h2,A⟩:=h.box n bx B
  rw [f]at h1
  simp only [so_,Prod.mk.injEq]at h1
  obtain ⟨rfl,rfl,rfl⟩:=h1
  exact⟨h2,A⟩
theorem RepV.ref_inv {u:Value} {n:Nm} {i j:Nat} (h:RepV G w u (.ref n i j)):∃b o sz,G.mu n=some (b,o,sz)/\u = .pointer (some ⟨b,o+i*sz+j,Option.none⟩):=by
  cases h with | ref _ _ h=>exact⟨_,_,_,h,rfl⟩
theorem Jr (h:Inv E G w S tk U) {t:TypeId} {u:Value} {a:V} {A:Eff} (Y:RepV G w u a) (B:vN P t S a=some A) :
    ∃W x,u = .pointer (some W)/\(loadVar t W).run P w = .ok x w/\RepV G w x A.val/\A.upd=[]:=by
  unfold vN at B
  split at B
  · cases B
  rename_i size hsz
  split at B
  · rename_i cs
    simp only [Option.bind_eq_some_iff]at B
    obtain ⟨v,N,Z⟩:=B
    rw [fV Z]
    cases Y.d_inv with
    | ptr _ _ _ us hI hc hr =>
      obtain ⟨x,L,I⟩:=Em (G:=G) hsz _ _ cs us hc hr N
      exact⟨_,x,rfl,L,I,rfl⟩
  · rename_i n i j
    obtain ⟨b,o,f,M,rfl⟩:=Y.ref_inv
    split at B
    · rename_i sz xs T
      split at B
      · rename_i cs O
        simp only [Option.map_eq_some_iff]at B
        obtain ⟨v,N,rfl⟩:=B
        have F:Stands G w (.vec sz xs) b o f:=(h.stands T M).1
        have R:f=sz:=F.sz
        subst R
        obtain ⟨hi,rfl⟩:=List.getElem?_eq_some_iff.1 O
        obtain ⟨hl,us,h1,h2⟩:=F.elem (.inl rfl) i hi
        obtain ⟨x,L,I⟩:=Em (G:=G) hsz b (o+i*f+j) (xs[i].drop j) (λk=>us (j+k))
          (λk J=>by simp only [List.length_drop]at J;rw [Nat.add_assoc (o+i*f)];exact (h1 (j+k) (by omega)).1)
          (λk J=>by rw [List.getElem_drop];exact h2 (j+k) (by simp only [List.length_drop]at J;omega)) N
        exact⟨_,x,rfl,L,I,rfl⟩
      · cases B
    · rename_i sz xs T
      split at B
      · rename_i cs O
        simp only [Option.map_eq_some_iff]at B
        obtain ⟨v,N,rfl⟩:=B
        have F:Stands G w (.froz sz xs) b o f:=(h.stands T M).1
        have R:f=sz:=F.sz
        subst R
        obtain ⟨hi,rfl⟩:=List.getElem?_eq_some_iff.1 O
        obtain ⟨hl,us,h1,h2⟩:=F.elem (.inr rfl) i hi
        obtain ⟨x,L,I⟩:=Em (G:=G) hsz b (o+i*f+j) (xs[i].drop j) (λk=>us (j+k))
          (λk J=>by simp only [List.length_drop]at J;rw [Nat.add_assoc (o+i*f)];exact (h1 (j+k) (by omega)).1)
          (λk J=>by rw [List.getElem_drop];exact h2 (j+k) (by simp only [List.length_drop]at J;omega)) N
        exact⟨_,x,rfl,L,I,rfl⟩
      · cases B
    · rename_i sz cs T
      simp only [Option.map_eq_some_iff]at B
      obtain ⟨v,N,rfl⟩:=B
      have F:Stands G w (.cells sz cs) b o f:=(h.stands T M).1
      have R:f=sz:=F.sz
      subst R
      obtain ⟨us,h1,h2⟩:=F.run
      obtain ⟨x,L,I⟩:=Rk (G:=G) hsz b (o+i*f+j) (cs.drop (i*f+j)) (λk=>us (i*f+j+k))
        (λk J=>by simp only [List.length_drop]at J;rw [show o+i*f+j+k=o+(i*f+j+k) by omega];exact h1 (i*f+j+k) (by omega))
        (λk J=>by rw [List.getElem_drop];exact h2 (i*f+j+k) (by simp only [List.length_drop]at J;omega)) N
      exact⟨_,x,rfl,L,I,rfl⟩
    · cases B
  · cases B
theorem Ti (h:Inv E G w S tk U) {t:TypeId} {u:Value} {a:V} {A:Eff} (j:RepV G w u a) (B:vN P t S a=some A) :
    eG P E (do pure (.value (<- Instr.loadAt t u))) dst G w S tk U A:=by
  obtain ⟨f,x,rfl,h1,h2,o⟩:=Jr h j B
  have:=eG.still (dst:=dst) (req:=A.req) h (s:=Instr.loadAt t (.pointer (some f))) (by simpa [Instr.loadAt,Instr.sureAddr]using h1) h2
  rw [<- o]at this
  exact this
theorem RepD.cells_one {I:Nat->Nat->Prop} {u:Value} {x:D} (h:RepD I w u x) (f:∀cs,x ≠ .agg cs):u.oneCell'=true:=by
  cases h with
  | agg arr ds hl h=>exact absurd rfl (f ds)
  | _=>rfl
theorem RepV.oneCell {u:Value} {x:V} (h:RepV G w u x) (ho:kW x=true):u.oneCell'=true:=by
  cases h with
  | d h=>exact h.cells_one (λcs e=>by subst e;simp [kW]at ho)
  | agg | tup | none | any=>simp [kW]at ho
  | _=>rfl
theorem Jl {u:Value} (h:u.oneCell'=true):u.cells = #[u]:=by
  cases u <;> first | rfl | simp [Value.oneCell']at h
theorem RepV.cells {u:Value} {x:V} (h:RepV G w u x) (ho:(bH x).all kW=true) :
    u.cells.toList.length=(bH x).length/\∀i (h1:i<u.cells.toList.length) (h2:i<(bH x).length),RepV G w u.cells.toList[i] (bH x)[i]:=by
  have base:∀{u:Value} {x:V},RepV G w u x->bH x=[x]->kW x=true ->
      u.cells.toList.length=(bH x).length/\∀i (h1:i<u.cells.toList.length) (h2:i<(bH x).length),RepV G w u.cells.toList[i] (bH x)[i]:=by
    intro u x h e h1
    have A:=Jl (h.oneCell h1)
    refine⟨by rw [e,A];rfl,λi a c => ?_⟩
    have hi:i=0:=by rw [e]at c;simp at c;exact c
    subst hi
    simp only [e,A]
    exact h
  cases x with
  | d x =>
    cases x with
    | agg ds =>
      cases h.d_inv with
      | agg arr _ hl o =>
        refine⟨by simpa [Value.cells,bH]using hl,λi a c => ?_⟩
        simp only [Value.cells,bH,List.getElem_map]
        exact .d (o i (by simpa [Value.cells]using a) (by simpa [bH]using c))
    | int k n=>exact base h rfl rfl
    | bool b=>exact base h rfl rfl
    | str s=>exact base h rfl rfl
    | sl xs=>exact base h rfl rfl
    | ptr cs=>exact base h rfl rfl
    | nilp=>exact base h rfl rfl
  | agg vs =>
    cases h with
    | agg arr _ hl o=>exact⟨by simpa [Value.cells,bH]using hl,λi a c=>o i (by simpa [Value.cells]using a) (by simpa [bH]using c)⟩
  | tup vs=>simp [bH,kW]at ho
  | none=>simp [bH,kW]at ho
  | any=>simp [bH,kW]at ho
  | nil=>exact base h rfl rfl
  | nilm=>exact base h rfl rfl
  | nili=>exact base h rfl rfl
  | ref n i j=>exact base h rfl rfl
  | vs n sz k len=>exact base h rfl rfl
  | fn f caps=>exact base h rfl rfl
  | map n=>exact base h rfl rfl
theorem RepV.cells_ones {u:Value} {x:V} (h:RepV G w u x) (ho:(bH x).all kW=true):∀c∈u.cells.toList,c.oneCell'=true:=by
  intro c hc
  obtain ⟨i,hi,rfl⟩:=List.getElem_of_mem hc
  obtain ⟨h1,h2⟩:=h.cells ho
  exact (h2 i hi (h1 ▸ hi)).oneCell (List.all_eq_true.1 ho _ (List.getElem_mem _))
theorem Ak (w:World) (g:Nat) (cs cur:Array Value) (t:TypeId) (f:Nat×Nat) (h:w.heap[g]? = some (.cells cur t f)) :
    (w.setRow g cs).heap[g]? = some (.cells cs t f):=by
  simp only [World.setRow,Array.getElem?_modify,if_true,h,Option.map_some]
theorem setRow_other (w:World) (g b:Nat) (cs:Array Value) (h:b≠g):(w.setRow g cs).heap[b]? = w.heap[b]? := by
  simp only [World.setRow,Array.getElem?_modify]
  rw [if_neg (λe=>h e.symm)]
theorem setRow_size (w:World) (g:Nat) (cs:Array Value):(w.setRow g cs).heap.size=w.heap.size:=by
  simp [World.setRow]
theorem cell_of_row {w:World} {b:Nat} {arr:Array Value} {t:TypeId} {f:Nat×Nat} (h:w.heap[b]? = some (.cells arr t f)) (o:Nat) :
    w.cell? ⟨b,o,none⟩=arr[o]? := by
  simp [World.cell?,h]
theorem bR {w:World} {b:Nat} {arr:Array Value} {t:TypeId} {f:Nat×Nat} (h:w.heap[b]? = some (.cells arr t f)):bsize w b=arr.size:=by
  simp [bsize,h]
theorem dz {α:Type} (cs new:List α) (o:Nat) (h:o+new.length<=cs.length):(splice cs new o).length=cs.length:=by
  simp [splice];omega
theorem uD {α:Type} (cs new:List α) (o:Nat) (h:o+new.length<=cs.length) (i:Nat) :
    (splice cs new o)[i]? = if o<=i/\i<o+new.length then new[i-o]? else cs[i]? := by
  have f:(cs.take o).length=o:=by simp;omega
  unfold splice
  by_cases h1:i<o
  · rw [if_neg (by omega),List.getElem?_append_left (by simp;omega),List.getElem?_append_left (by omega),List.getElem?_take_of_lt h1]
  · by_cases h2:i<o+new.length
    · rw [if_pos ⟨by omega,h2⟩,List.getElem?_append_left (by simp;omega),List.getElem?_append_right (by omega),f]
    · rw [if_neg (by omega),List.getElem?_append_right (by simp;omega),List.getElem?_drop]
      congr 1
      simp only [List.length_append,f];omega
theorem oZ {α:Type} (cs new:List α) (o:Nat) (h:o+new.length<=cs.length) (i:Nat) (hi:i<(splice cs new o).length) :
    (splice cs new o)[i]=if h1:o<=i/\i<o+new.length then new[i-o]'(by omega)else cs[i]'(by rw [dz cs new o h]at hi;exact hi):=by
  have f:=uD cs new o h i
  rw [List.getElem?_eq_getElem hi]at f
  split
  · rename_i h1
    rw [if_pos h1,List.getElem?_eq_getElem (by omega)]at f
    exact Option.some.inj f
  · rename_i h1
    rw [if_neg h1,List.getElem?_eq_getElem (by rw [dz cs new o h]at hi;exact hi)]at f
    exact Option.some.inj f
theorem Fv {w w':World} {bx bx':Box} {b o off:Nat} (h:celB w bx b o) (f:celK bx bx' off):celB w' bx' b o:=by
  cases bx' with
  | cells s cs =>
    obtain ⟨⟨j,rfl⟩,hs⟩:=f
    exact⟨h.1,λh2=>absurd hs (Nat.not_lt_of_le h2)⟩
  | _=>exact trivial
theorem J8 (h:Inv E G w S tk U) {n:Nm} {bx bx':Box} {b o sz:Nat} (hS:S n=some bx) (R:bx.mut=true) (J:bx.row=true) (hmu:G.mu n=some (b,o,sz))
    {t:TypeId} {size:Nat} (hsz:szT P t=some size) {u:Value} (x:List V) (off:Nat)
    (hul:u.cells.toList.length=x.length) (hur:∀i (h1:i<u.cells.toList.length) (h2:i<x.length),RepV G w u.cells.toList[i] x[i])
    (huo:∀c∈u.cells.toList,c.oneCell'=true)
    (hxs:x.length=size) (hfit:off+size<=bx.all.length) (B:bx'.all=splice bx.all x off) (hsz':bx'.sz=bx.sz) (hev:bx'.even) (W:bx'.mut=true) (F:bx'.row=true) (hkin:celK bx bx' off:=by exact trivial) :
    ∃w',(Instr.storeAt t (.pointer (some ⟨b,o+off,none⟩)) u).run P w = .ok () w'/\Inv E G w' (supd S n (some bx')) tk U/\Ext G w G w':=by
  have hst0:=(h.stands hS hmu).1
  have I:Stands G w bx b o sz:=by
    cases bx with
    | map es=>cases J
    | pmap es=>cases J
    | iter c l=>cases J
    | _=>exact hst0
  obtain ⟨⟨arr,elem,A⟩,N⟩:=I.free R
  have hbs:=bR A
  have L:=I.room
  rw [hbs]at L
  have hcl:u.cells.size=size:=by rw [<- hxs,<- hul];simp
  have hrun:=run_storeCells_at P b (o+off) elem u.cells.toList 0 arr w A (by simp;omega) huo
  refine⟨w.setRow b (arr.toList.take (o+off)++u.cells.toList++arr.toList.drop (o+off+u.cells.toList.length)).toArray,?_,?_⟩
  · have Y:(storeCells ⟨b,o+off,none⟩ u.cells.toList).run P w = .ok () (w.setRow b (arr.toList.take (o+off)++u.cells.toList++arr.toList.drop (o+off+u.cells.toList.length)).toArray):=hrun
    simp only [Instr.storeAt,Instr.sureAddr,Sem.run_bind,Sem.run_pure,Result.andThen_ok,storeVar,run_sizeOf hsz,hcl,ne_eq,not_true_eq_false,if_false,Y]
  · have O : (w.setRow b (arr.toList.take (o + off) ++ u.cells.toList ++ arr.toList.drop (o + off + u.cells.toList.length)).toArray).heap[b]? =
        some (.cells (splice arr.toList u.cells.toList (o+off)).toArray elem (0,0)):=Ak w b _ arr elem (0,0) A
    have f:o+off+u.cells.toList.length<=arr.toList.length:=by rw [hul,hxs];simp;omega
    refine h.write hS R hmu (λb' hb'=>setRow_other w b b' _ hb') (setRow_size w b _) ?_ (λe he=>by rw [q9 A]at he;rw [q9 O];exact he) N rfl rfl rfl bx' (λe => ?_)
    · rw [hbs,bR O];simp [dz _ _ _ f]
    · have hs:Stands G (w.setRow b (arr.toList.take (o+off)++u.cells.toList++arr.toList.drop (o+off+u.cells.toList.length)).toArray) bx' b o sz :=
        { sz:=by rw [hsz'];exact I.sz
          even:=hev
          room:=by rw [B,dz _ _ _ (by omega),bR O,List.size_toArray,dz _ _ _ f];simpa using L
          cell:=λj hj=>by
            have hj0:j<bx.all.length:=by rw [B,dz _ _ _ (by omega)]at hj;exact hj
            have hlen:o+j<(splice arr.toList u.cells.toList (o+off)).length:=by rw [dz _ _ _ f];simp;omega
            refine⟨(splice arr.toList u.cells.toList (o+off))[o+j],?_,?_,?_⟩
            · rw [cell_of_row O];simp [hlen]
            · rw [oZ _ _ _ f]
              split
              · exact huo _ (List.getElem_mem _)
              · rename_i T
                obtain ⟨v,Z,h1,hr⟩:=I.cell j hj0
                rw [cell_of_row A]at Z
                have M:o+j<arr.size:=by omega
                rw [Array.getElem?_eq_getElem M,so_]at Z
                have:arr.toList[o+j]=v:=by rw [<- Z];simp
                rw [this];exact h1
            · rw [oZ _ _ _ f]
              simp only [B]
              rw [oZ _ _ _ (by omega)]
              by_cases T:off<=j/\j<off+x.length
              · rw [dif_pos T,dif_pos (by omega)]
                have:=(hur (j-off) (by omega) (by omega)).ext e
                simpa [show o+j-(o+off)=j-off by omega]using this
              · rw [dif_neg T,dif_neg (by omega)]
                obtain ⟨v,Z,_,hr⟩:=I.cell j hj0
                rw [cell_of_row A]at Z
                have M:o+j<arr.size:=by omega
                rw [Array.getElem?_eq_getElem M,so_]at Z
                have:arr.toList[o+j]=v:=by rw [<- Z];simp
                rw [this]
                exact hr.ext e
          free:=λ_=>⟨⟨_,_,O⟩,N⟩
          froz:=λhx=>(by rw [W]at hx;cases hx)
          cel:=Fv I.cel hkin }
      cases bx' with
      | map es=>cases F
      | pmap es=>cases F
      | iter c l=>cases F
      | _=>exact hs
theorem Bo:∀{vs:List V} {ds:List D},uX vs=some ds->ds.length=vs.length
  | [],ds,h=>by simp [uX]at h;subst h;rfl
  | v::vs,ds,h=>by
    cases v with
    | d x =>
      simp only [uX,Option.map_eq_some_iff]at h
      obtain ⟨f,h1,rfl⟩:=h
      simp [Bo h1]
    | nil =>
      simp only [uX,Option.map_eq_some_iff]at h
      obtain ⟨f,h1,rfl⟩:=h
      simp [Bo h1]
    | _=>simp [uX]at h
theorem Bd:∀{vs:List V} {ds:List D} (_:uX vs=some ds) (i:Nat) (h1:i<vs.length) (h2:i<ds.length) (u:Value),RepV G w u vs[i]->RepD G.imm w u ds[i]
  | [],_,_,i,h1,_,_,_=>absurd h1 (Nat.not_lt_zero i)
  | v::vs,ds,h,i,h1,h2,u,f=>by
    cases v with
    | d x =>
      simp only [uX,Option.map_eq_some_iff]at h
      obtain ⟨A,j,rfl⟩:=h
      cases i with
      | zero=>exact f.d_inv
      | succ i=>exact Bd j i (by simpa using h1) (by simpa using h2) u f
    | nil =>
      simp only [uX,Option.map_eq_some_iff]at h
      obtain ⟨A,j,rfl⟩:=h
      cases i with
      | zero =>
        have o:RepV G w u .nil:=f
        cases o with
        | nil a=>exact .sl0 _ _
      | succ i=>exact Bd j i (by simpa using h1) (by simpa using h2) u f
    | _=>simp [uX]at h
theorem OZ {α β:Type} (f:α->β) (cs new:List α) (o:Nat):(splice cs new o).map f=splice (cs.map f) (new.map f) o:=by
  simp [splice,List.map_drop,List.map_take]
theorem Fa {α:Type} (sz:Nat):∀(xs:List (List α)),(∀x∈xs,x.length=sz)->∀(i j:Nat) (new:List α) (hi:i<xs.length),j+new.length<=xs[i].length ->
    (xs.set i (splice xs[i] new j)).flatten=splice xs.flatten new (i*sz+j)
  | [],_,i,_,_,hi,_=>absurd hi (Nat.not_lt_zero i)
  | x::xs,he,0,j,new,hi,hj=>by
    have f:j+new.length<=x.length:=hj
    simp only [List.set_cons_zero,List.flatten_cons,Nat.zero_mul,Nat.zero_add,splice,List.getElem_cons_zero]
    rw [List.take_append_of_le_length (by omega),List.drop_append_of_le_length (by omega)]
    simp
  | x::xs,he,i+1,j,new,hi,hj=>by
    have I:x.length=sz:=he x (by simp)
    have h:i<xs.length:=by simpa using hi
    have f:j+new.length<=xs[i].length:=by simpa using hj
    have B:=Fa sz xs (λy A=>he y (by simp [A])) i j new h f
    simp only [List.set_cons_succ,List.flatten_cons,List.getElem_cons_succ]
    rw [B]
    have e:(i+1)*sz+j=x.length+(i*sz+j):=by rw [Nat.succ_mul];omega
    unfold splice
    rw [e,List.take_append,List.drop_append]
    have F:List.take (x.length+(i*sz+j)) x=x:=List.take_of_length_le (by omega)
    have o:List.drop (x.length+(i*sz+j)+new.length) x=[]:=List.drop_eq_nil_of_le (by omega)
    rw [F,o]
    simp only [Nat.add_sub_cancel_left,List.append_assoc,List.nil_append]
    congr 4
    omega
theorem Tn {α:Type} {sz:Nat} {xs:List (List α)} (he:∀x∈xs,x.length=sz) (i:Nat) (y:List α) (f:y.length=sz):∀x∈xs.set i y,x.length=sz:=by
  intro x j
  rcases List.mem_or_eq_of_mem_set j with h|h
  · exact he x h
  · rw [h,f]
theorem Q8 (h:Inv E G w S tk U) {t:TypeId} {u v:Value} {a x:V} {A:Eff} (ha:RepV G w u a) (hx:RepV G w v x) (F:zo P t S a x=some A) :
    eG P E (do Instr.storeAt t u v;pure .skip) dst G w S tk U A:=by
  have fin:∀{bx':Box} {n:Nm} {req:List (Nm×Box)},(∃w',(Instr.storeAt t u v).run P w = .ok () w'/\Inv E G w' (supd S n (some bx')) tk U/\Ext G w G w') ->
      eG P E (do Instr.storeAt t u v;pure .skip) dst G w S tk U ⟨req,[(n,some bx')],.none⟩:=by
    rintro bx' n req ⟨w',h1,h2,N⟩
    exact⟨.skip,undef,w',G,by simp [h1],.inr ⟨rfl,rfl⟩,N,h2.mono (λ_ x => .inl x),.none⟩
  unfold zo at F
  split at F
  · cases F
  rename_i size hsz
  split at F
  · rename_i n i j
    obtain ⟨b,o,f,J,rfl⟩:=ha.ref_inv
    split at F
    · rename_i sz cs W
      have I:Stands G w (.cells sz cs) b o f:=(h.stands W J).1
      have M:f=sz:=I.sz
      subst M
      cases hc:(Nat.beq (bH x).length size&&Nat.ble (i*f+j+size) cs.length&&(bH x).all kW&&Nat.blt f 1048576)with
      | false=>simp only [hc,cond_false]at F;cases F
      | true =>
        simp only [hc,cond_true,so_]at F
        subst F
        simp only [Bool.and_eq_true]at hc
        obtain ⟨⟨⟨h1,h2⟩,N⟩,h4⟩:=hc
        have O:=Nat.eq_of_beq_eq_true h1
        have Y:=Nat.le_of_ble_eq_true h2
        obtain ⟨T,c2⟩:=hx.cells N
        refine fin ?_
        rw [show o+i*f+j=o+(i*f+j) by omega]
        have Z:celK (.cells f cs) (.cells f (splice cs (bH x) (i*f+j))) (i*f+j):=⟨⟨cs,rfl⟩,by simpa [Nat.blt_eq]using h4⟩
        exact J8 h W rfl rfl J hsz (bH x) (i*f+j) T c2 (hx.cells_ones N) O Y rfl rfl trivial rfl rfl Z
    · rename_i sz xs W
      have I:Stands G w (.vec sz xs) b o f:=(h.stands W J).1
      have M:f=sz:=I.sz
      subst M
      split at F
      · rename_i cs new hcs L
        cases hc:(Nat.beq new.length size&&Nat.ble (j+size) cs.length&&(bH x).all kW)with
        | false=>simp only [hc,cond_false]at F;cases F
        | true =>
          simp only [hc,cond_true,so_]at F
          subst F
          simp only [Bool.and_eq_true]at hc
          obtain ⟨⟨h1,h2⟩,N⟩:=hc
          have O:=Nat.eq_of_beq_eq_true h1
          have Y:=Nat.le_of_ble_eq_true h2
          obtain ⟨hi,rfl⟩:=List.getElem?_eq_some_iff.1 hcs
          obtain ⟨T,c2⟩:=hx.cells N
          have R:=Bo L
          have B:∀y∈xs,y.length=f:=I.even
          have hil:xs[i].length=f:=B _ (List.getElem_mem hi)
          have hsl:(splice xs[i] new j).length=f:=by rw [dz _ _ _ (by omega),hil]
          have hall:(Box.vec f xs).all.length=xs.length*f:=by
            show ((xs.map λx=>x.map V.d).flatten).length=_
            rw [tQ f _ (λy hy=>by obtain ⟨z,M,rfl⟩:=List.mem_map.1 hy;rw [List.length_map];exact B z M)]
            simp
          have hb:i*f+f<=xs.length*f:=by rw [<- Nat.succ_mul];exact Nat.mul_le_mul_right _ hi
          refine fin ?_
          rw [show o+i*f+j=o+(i*f+j) by omega]
          refine J8 h W rfl rfl J hsz (new.map .d) (i*f+j) (by rw [List.length_map,R];exact T) (λk a1 a2 => ?_) (hx.cells_ones N) (by simpa using O) (by rw [hall];omega) ?_ rfl ?_ rfl rfl
          · rw [List.getElem_map]
            exact .d (Bd L k (T ▸ a1) (by simpa using a2) _ (c2 k a1 (T ▸ a1)))
          · show ((xs.set i (splice xs[i] new j)).map λx=>x.map V.d).flatten=splice ((xs.map λx=>x.map V.d).flatten) (new.map .d) (i*f+j)
            rw [List.map_set,OZ]
            have:=Fa f (xs.map λx=>x.map V.d) (λy hy=>by obtain ⟨z,M,rfl⟩:=List.mem_map.1 hy;rw [List.length_map];exact B z M) i j (new.map .d) (by simpa using hi) (by simp;omega)
            simpa using this
          · exact Tn B i _ hsl
      · cases F
    · cases F
  · cases F
end
end Go.Eng

/-
  THE ENGINE: what makes memory (alloc, box, literals of structs and slices), and the plain operations.
-/
namespace Go.Eng
set_option linter.unusedSectionVars false
variable [DM]
variable {P:Program}
section
variable {E:Env} {G:Gh} {w:World} {S:Store} {tk:Nat} {U:Nat->Prop}
theorem oO (G:Gh) (w:World) (c:Value):RepV G w c (sW c):=by
  unfold sW
  split
  · exact .d (.int _ _)
  · exact .d (.bool _)
  · exact .d (.str _)
  · exact .nil _
  · exact .d .nilp
  · exact .nilm
  · exact .nili
  · exact .any _
theorem Mf (G:Gh) (w:World) (v:Value):RepV G w v (valV v):=by
  unfold valV
  split
  · rename_i cs
    have:Value.agg cs=Value.agg cs.toList.toArray:=by simp
    rw [this]
    exact tq (by simp) (λi h1 h2=>by rw [List.getElem_map];exact oO G w _)
  · rename_i vs
    split
    · rename_i h
      have:vs = #[]:=by simpa using h
      subst this
      exact .none
    · exact .any _
  · exact oO G w _
theorem Cb (h:Inv E G w S tk U) {dst:Nat} (J:dst<100000) (R:¬U dst) (elem:TypeId) (arr:Array Value) (vs:List V) (hl:arr.toList.length=vs.length) (I:vs.length<1048576) (o:vs.all kW=true)
    (M:∀i (h1:i<arr.toList.length) (h2:i<vs.length),RepV G w arr.toList[i] vs[i]) {s:Sem Value}
    (A:s.run P w = .ok (.pointer (some ⟨w.heap.size,0,none⟩)) (w.alloc (.cells arr elem))) :
    eG P E (do pure (.value (<- s))) (some dst) G w S tk U ⟨[],[((dst,tk),some (.cells vs.length vs))],.ref (dst,tk) 0 0⟩:=by
  obtain ⟨h1,h2⟩:=h.allocBox dst R (.cells arr elem) (.cells vs.length vs) (λG' F e=>by
    have hb:=jY w (.cells arr elem)
    have hs:Stands G' (w.alloc (.cells arr elem)) (.cells vs.length vs) w.heap.size 0 vs.length :=
      { sz:=rfl,even:=trivial
        room:=by rw [bR hb];show 0+vs.length<=_;simp at hl;omega
        cell:=λj hj=>by
          have B:j<vs.length:=hj
          have f:j<arr.toList.length:=by omega
          refine⟨arr.toList[j],?_,(M j f B).oneCell (List.all_eq_true.1 o _ (List.getElem_mem _)),(M j f B).ext e⟩
          rw [cell_of_row hb,Nat.zero_add,<- Array.getElem?_toList,List.getElem?_eq_getElem f]
        free:=λ_=>⟨⟨arr,elem,hb⟩,λT L=>Nat.lt_irrefl _ (h.immB _ _ ((F _ _).1 L))⟩
        froz:=λN=>by simp [Box.mut]at N
        cel:=⟨rfl,λhs=>absurd hs (Nat.not_le_of_lt I)⟩ }
    exact hs)
  refine⟨.value (.pointer (some ⟨w.heap.size,0,none⟩)),.pointer (some ⟨w.heap.size,0,none⟩),_,_,by simp only [Sem.run_bind,A,Result.andThen_ok,Sem.run_pure],.inl rfl,h2,h1.mono (λn O=>O.imp id (λe=>by rw [e,Nat.mod_eq_of_lt J])),?_⟩
  have:(⟨w.heap.size,0,none⟩:Addr)=⟨w.heap.size,0+0*vs.length+0,none⟩:=by simp
  rw [this]
  exact .ref 0 0 (by simp [Box.sz])
theorem ow (w:World) (elem:TypeId) (cells:Array Value):(newRow elem cells).run P w = .ok ⟨w.heap.size,0,none⟩ (w.alloc (.cells cells elem)):=rfl
theorem y5 (w:World) (t:TypeId) (v:Value):(newVar t v).run P w = .ok ⟨w.heap.size,0,none⟩ (w.alloc (.cells v.cells t)):=rfl
theorem boxF_ok (h:Inv E G w S tk U) {dst:Nat} (o:dst<100000) (B:¬U dst) {t:TypeId} {u:Value} {x:V} {A:Eff} (F:RepV G w u x) (f:Oe x dst tk=some A) :
    eG P E (do pure (.value (<- Instr.box t u))) (some dst) G w S tk U A:=by
  unfold Oe at f
  cases hob:((bH x).all kW&&Nat.blt (bH x).length 1048576)with
  | false=>simp only [hob,cond_false]at f;cases f
  | true =>
  simp only [hob,cond_true,so_]at f
  subst f
  obtain ⟨ho,j⟩:=(Bool.and_eq_true _ _).mp hob
  obtain ⟨I,c2⟩:=F.cells ho
  exact Cb h o B t u.cells (bH x) I (by simpa [Nat.blt_eq]using j) ho c2 (by simp [Instr.box,y5])
theorem nL {t:TypeId} {z:Value} (h:(P.info? t).bind (·.zero)=some z) (w:World):(zeroValue t).run P w = .ok z w:=by
  cases hi:P.info? t with
  | none=>simp [hi]at h
  | some i =>
    simp only [hi,ob_]at h
    simp [zeroValue,typeInfo,hi,h]
theorem QP (h:Inv E G w S tk U) {dst:Nat} (B:dst<100000) (F:¬U dst) {t:TypeId} {A:Eff} (f:Ae P t dst tk=some A) :
    eG P E (do pure (.value (<- Instr.alloc t true (.tuple #[])))) (some dst) G w S tk U A:=by
  unfold Ae zeroCells at f
  split at f
  · rename_i cs j
    cases hob:(cs.all kW&&Nat.blt cs.length 1048576)with
    | false=>simp only [hob,cond_false]at f;cases f
    | true =>
    simp only [hob,cond_true,so_]at f
    subst f
    obtain ⟨ho,o⟩:=(Bool.and_eq_true _ _).mp hob
    simp only [Option.map_eq_some_iff]at j
    obtain ⟨z,I,rfl⟩:=j
    exact Cb h B F t z.cells (z.cells.toList.map sW) (by simp) (by simpa [Nat.blt_eq]using o) ho (λi h1 h2=>by rw [List.getElem_map];exact oO G w _)
      (by simp [Instr.alloc,nL I,y5])
  · cases f
theorem O1 (h:Inv E G w S tk U) {dst:Nat} (O:dst<100000) (hd:¬U dst) {t:TypeId} {A:Eff} (M:zb P t dst tk=some A) :
    eG P E (do pure (.value (<- Instr.alloc t true (.tuple #[])))) (some dst) G w S tk U A:=by
  unfold zb zeroCells at M
  split at M
  · rename_i L
    simp only [so_]at M
    subst M
    simp only [Option.map_eq_some_iff]at L
    obtain ⟨z,hz,f⟩:=L
    obtain ⟨B,o,R,I,F⟩:∃B o,z.cells.toList=[B,o]/\sW B = .d .nilp/\sW o = .nil:=by
      match hl:z.cells.toList,f with
      | [B,o],f =>
        simp only [List.map_cons,List.map_nil,List.cons.injEq,and_true]at f
        exact⟨B,o,rfl,f.1,f.2⟩
      | [],f=>simp at f
      | [_],f=>simp at f
      | _::_::_::_,f=>simp at f
    have N:z.cells = #[B,o]:=Array.ext' R
    have h0:B = .pointer none:=by
      cases B with
      | pointer p=>cases p with
        | none=>rfl
        | some a=>simp [sW]at I
      | slice a l k =>
        exfalso
        unfold sW at I
        split at I <;> first | (cases I;done) | (rename_i T;cases T)
      | map m=>cases m <;> simp [sW]at I
      | _=>simp [sW]at I
    subst h0
    have h1:o = .slice none 0 0:=by
      cases o with
      | pointer p=>cases p with
        | none=>simp [sW]at F
        | some a=>simp [sW]at F
      | slice a l k =>
        unfold sW at F
        split at F <;> first | (cases F;done) | (rename_i T;cases T;done) | assumption
      | map m=>cases m <;> simp [sW]at F
      | _=>simp [sW]at F
    subst h1
    have hb:=jY w (.cells #[Value.pointer none,Value.slice none 0 0] t)
    obtain ⟨i1,i2⟩:=h.allocBox dst hd (.cells #[Value.pointer none,Value.slice none 0 0] t) (.cells (1048576+t) [.any,.nil]) (λG' Y e=>by
      have hs:Stands G' (w.alloc (.cells #[Value.pointer none,Value.slice none 0 0] t)) (.cells (1048576+t) [.any,.nil]) w.heap.size 0 (1048576+t) :=
        { sz:=rfl,even:=trivial
          room:=by rw [bR hb];show 0+2<=2;omega
          cell:=λj hj=>by
            have Z:j<2:=hj
            match j,Z with
            | 0,_=>exact⟨.pointer none,by rw [cell_of_row hb];rfl,rfl,.any _⟩
            | 1,_=>exact⟨.slice none 0 0,by rw [cell_of_row hb];rfl,rfl,.nil none⟩
          free:=λ_=>⟨⟨_,t,hb⟩,λo' W=>Nat.lt_irrefl _ (h.immB _ _ ((Y _ _).1 W))⟩
          froz:=λhx=>by simp [Box.mut]at hx
          cel:=⟨rfl,λ_=>⟨_,_,by rw [Nat.add_sub_cancel_left];exact hb,.inl rfl,.inl rfl⟩⟩ }
      exact hs)
    refine⟨.value (.pointer (some ⟨w.heap.size,0,none⟩)),.pointer (some ⟨w.heap.size,0,none⟩),_,_,?_,.inl rfl,i2,i1.mono (λn hn=>hn.imp id (λe=>by rw [e,Nat.mod_eq_of_lt O])),?_⟩
    · have J:(Instr.alloc t true (.tuple #[])).run P w = .ok (.pointer (some ⟨w.heap.size,0,none⟩)) (w.alloc (.cells #[Value.pointer none,Value.slice none 0 0] t)):=by
        simp [Instr.alloc,nL hz,y5,N]
      simp only [Sem.run_bind,J,Result.andThen_ok,Sem.run_pure]
    · have:(⟨w.heap.size,0,none⟩:Addr)=⟨w.heap.size,0+0*(1048576+t)+0,none⟩:=by simp
      rw [this]
      exact .ref 0 0 (by simp [Box.sz])
  · cases M
theorem Sb {α β:Type} (arr:Array α) (f:α->Sem β) (g:α->β) (w:World) (h:∀x∈arr,(f x).run P w = .ok (g x) w) :
    (arr.mapM f).run P w = .ok (arr.map g) w:=by
  have hl:∀l:List α,(∀x∈l,(f x).run P w = .ok (g x) w)->(l.mapM f).run P w = .ok (l.map g) w:=by
    intro l
    induction l with
    | nil=>intro _;simp
    | cons x l o =>
      intro j
      simp [List.mapM_cons,j x (by simp),o (λy A=>j y (by simp [A]))]
  rw [Array.mapM_eq_mapM_toList]
  simp only [Sem.run_map,hl arr.toList (λx j=>h x (by simpa using j)),Result.andThen_ok]
  congr 1
  apply Array.ext'
  simp
theorem zy:∀(new:List Value) (k:Nat) (cells:Array Value) (off:Nat),off+k+new.length<=cells.size ->
    ((new.zipIdx k).foldl (λcs (c,j)=>cs.setIfInBounds (off+j) c) cells).toList=splice cells.toList new (off+k)
  | [],k,cells,off,_=>by simp [splice]
  | c::new,k,cells,off,h=>by
    simp only [List.length_cons]at h
    simp only [List.zipIdx_cons,List.foldl_cons]
    rw [zy new (k+1) _ off (by simp;omega)]
    simp only [Array.toList_setIfInBounds]
    apply List.ext_getElem?
    intro i
    have f:(cells.toList.set (off+k) c).length=cells.size:=by simp
    rw [uD _ _ _ (by rw [f];omega),uD _ _ _ (by simp;omega)]
    simp only [List.length_cons]
    by_cases h1:i=off+k
    · subst h1
      rw [if_neg (by omega),if_pos (by omega),List.getElem?_set_self (by simp;omega)]
      simp
    · by_cases h2:off+(k+1)<=i/\i<off+(k+1)+new.length
      · rw [if_pos h2,if_pos (by omega),show i-(off+k)=(i-(off+(k+1)))+1 by omega,List.getElem?_cons_succ]
      · rw [if_neg h2,if_neg (by omega),List.getElem?_set_ne (by omega)]
theorem ve (new:Array Value) (cells:Array Value) (off:Nat) :
    (new.zipIdx.foldl (λcs (x:Value×Nat)=>cs.setIfInBounds (off+x.2) x.1) cells)=(new.toList.zipIdx 0).foldl (λcs (x:Value×Nat)=>cs.setIfInBounds (off+x.2) x.1) cells:=by
  rw [<- Array.foldl_toList];congr 1;simp
def xm (G:Gh) (w:World) (us:List Value) (vs:List V):Prop :=
  us.length=vs.length/\∀i (h1:i<us.length) (h2:i<vs.length),RepV G w us[i] vs[i]
theorem xm.splice {us new:List Value} {vs f:List V} (h:xm G w us vs) (A:xm G w new f) (o:Nat) (ho:o+new.length<=us.length) :
    xm G w (Eng.splice us new o) (Eng.splice vs f o):=by
  have j:o+f.length<=vs.length:=by rw [<- A.1,<- h.1];exact ho
  refine⟨by rw [dz _ _ _ ho,dz _ _ _ j,h.1],λi h1 h2 => ?_⟩
  rw [oZ _ _ _ ho,oZ _ _ _ j]
  by_cases hin:o<=i/\i<o+new.length
  · rw [dif_pos hin,dif_pos (by rw [<- A.1];exact hin)]
    exact A.2 _ _ _
  · rw [dif_neg hin,dif_neg (by rw [<- A.1];exact hin)]
    exact h.2 _ _ _
theorem KR (o:Nat->Option (Nat×Nat)):∀(parts:List (Nat×Value)) (f:List (Nat×V)) (cells:Array Value) (h A:List V),
    parts.length=f.length->(∀i (h1:i<parts.length) (h2:i<f.length),parts[i].1=f[i].1/\RepV G w parts[i].2 f[i].2) ->
    (∀p∈f,(bH p.2).all kW=true) ->
    xm G w cells.toList h->BZ o h f=some A->∃I,Instr.fill o cells parts=some I/\xm G w I.toList A
  | [],[],cells,h,A,_,_,_,hc,B=>by
    simp only [BZ,so_]at B
    subst B
    exact⟨cells,rfl,hc⟩
  | [],_::_,_,_,_,hl,_,_,_,_=>by simp at hl
  | _::_,[],_,_,_,hl,_,_,_,_=>by simp at hl
  | (i,u)::parts,(j,x)::f,cells,h,A,hl,O,ho,hc,B=>by
    have N:=O 0 (by simp) (by simp)
    simp only [List.getElem_cons_zero]at N
    obtain ⟨rfl,W⟩:=N
    simp only [BZ]at B
    split at B
    · cases B
    rename_i off size L
    cases hcnd:(Nat.beq (bH x).length size&&Nat.ble (off+size) h.length)with
    | false=>simp only [hcnd,cond_false]at B;cases B
    | true =>
      simp only [hcnd,cond_true]at B
      simp only [Bool.and_eq_true]at hcnd
      have T:=Nat.eq_of_beq_eq_true hcnd.1
      have e2:=Nat.le_of_ble_eq_true hcnd.2
      obtain ⟨R,c2⟩:=W.cells (ho (i,x) (by simp))
      have M:u.cells.size=size:=by rw [<- T,<- R];simp
      have Y:cells.size=h.length:=by have:=hc.1;simpa using this
      simp only [Instr.fill,L]
      rw [if_neg (by simp [M];omega),ve]
      have F:=zy u.cells.toList 0 cells off (by simp;omega)
      refine KR o parts f _ (splice h (bH x) off) A (by simpa using hl) (λk Z a2=>O (k+1) (Nat.succ_lt_succ Z) (Nat.succ_lt_succ a2)) (λp J=>ho p (by simp [J])) ?_ B
      rw [F]
      exact hc.splice ⟨R,c2⟩ off (by simp;omega)
theorem run_build (t:TypeId) (parts:Array (Nat×Value)) {fs:Array Field} (F:P.underlying t=some (.struct fs)) (j:∀f∈fs,(P.info? f.type).isSome=true) {z:Value}
    (B:(P.info? t).bind (·.zero)=some z) (w:World) {h:Array Value}
    (o:Instr.fill (λi=>(fs.map λf=>(f.offset,((P.info? f.type).map (·.size)).getD 0))[i]?) z.cells parts.toList=some h) :
    (Instr.build t parts).run P w = .ok (.agg h) w:=by
  have A:(fs.mapM (λ(f:Field)=>do pure (f.offset,<- sizeOf f.type))).run P w = .ok (fs.map λf=>(f.offset,((P.info? f.type).map (·.size)).getD 0)) w:=by
    refine Sb fs _ _ w (λf o => ?_)
    have:=j f o
    cases hi:P.info? f.type with
    | none=>simp [hi]at this
    | some i=>simp [sizeOf,typeInfo,hi]
  unfold Instr.build
  simp only [Sem.run_bind,nL B,Result.andThen_ok,bn F,A]
  simp only [o,Sem.run_pure]
theorem Rq {t:TypeId} {parts:Array (Nat×Value)} {j:List (Nat×V)} {v:V}
    (hl:parts.toList.length=j.length) (hp:∀i (h1:i<parts.toList.length) (h2:i<j.length),parts.toList[i].1=j[i].1/\RepV G w parts.toList[i].2 j[i].2)
    (ho:∀p∈j,(bH p.2).all kW=true) (F:KG P t j=some v) :
    ∃u,(Instr.build t parts).run P w = .ok u w/\RepV G w u v:=by
  unfold KG at F
  cases hs:isStruct P t with
  | false =>
    simp only [hs,cond_false]at F
    unfold arrT at F
    split at F
    · rename_i size zc hsz L
      split at hsz
      · rename_i n e R
        simp only [zeroCells,Option.map_eq_some_iff]at L
        obtain ⟨z,L,rfl⟩:=L
        simp only [Option.map_eq_some_iff]at F
        obtain ⟨o,A,rfl⟩:=F
        obtain ⟨inf,d,W,i2,_⟩:=yh hsz
        obtain ⟨B,Z,O⟩:=KR (G:=G) (w:=w) _ parts.toList j z.cells (z.cells.toList.map sW) o hl hp ho
          ⟨by simp,λi h1 h2=>by rw [List.getElem_map];exact oO G w _⟩ A
        refine⟨.agg B,?_,?_⟩
        · unfold Instr.build
          simp only [Sem.run_bind,nL L,Result.andThen_ok,bn R]
          have T:(sizeOf e).run P w = .ok size w:=by simp [sizeOf,typeInfo,W,i2]
          simp only [T,Result.andThen_ok,Z,Sem.run_pure]
        · have:Value.agg B=Value.agg B.toList.toArray:=by simp
          rw [this]
          exact tq O.1 O.2
      · cases hsz
    · cases F
  | true =>
    simp only [hs,cond_true]at F
    unfold isStruct at hs
    split at hs
    · rename_i fs R
      split at F
      · rename_i zc L
        simp only [zeroCells,Option.map_eq_some_iff]at L
        obtain ⟨z,L,rfl⟩:=L
        simp only [Option.map_eq_some_iff]at F
        obtain ⟨o,A,rfl⟩:=F
        have N:∀f∈fs,(P.info? f.type).isSome=true:=by
          intro f F
          obtain ⟨i,hi,rfl⟩:=Array.getElem_of_mem F
          exact (Array.all_eq_true.1 hs) i hi
        have J:BZ (λi=>(fs.map λf=>(f.offset,((P.info? f.type).map (·.size)).getD 0))[i]?) (z.cells.toList.map sW) j=some o:=by
          have key:∀(l:List (Nat×V)) (cells:List V) (o:List V),BZ (bB P t) cells l=some o ->
              BZ (λi=>(fs.map λf=>(f.offset,((P.info? f.type).map (·.size)).getD 0))[i]?) cells l=some o:=by
            intro l
            induction l with
            | nil=>intro cells o h;exact h
            | cons p l ih =>
              intro cells o h
              obtain ⟨i,x⟩:=p
              simp only [BZ]at h ⊢
              split at h
              · cases h
              rename_i off size I
              unfold bB Al at I
              simp only [R]at I
              split at I
              · rename_i fd Y
                simp only [Option.map_eq_some_iff,Prod.mk.injEq]at I
                obtain ⟨s,hs1,rfl,rfl⟩:=I
                obtain ⟨inf,d,W,i2,_⟩:=yh hs1
                have M:(fs.map λf=>(f.offset,((P.info? f.type).map (·.size)).getD 0))[i]? = some (fd.offset,s):=by
                  rw [Array.getElem?_map,Y];simp [W,i2]
                simp only [M]
                cases hc:(Nat.beq (bH x).length s&&Nat.ble (fd.offset+s) cells.length)with
                | false=>simp only [hc,cond_false]at h;cases h
                | true=>simp only [hc,cond_true]at h ⊢;exact ih _ _ h
              · cases I
          exact key _ _ _ A
        obtain ⟨B,Z,O⟩:=KR (G:=G) (w:=w) _ parts.toList j z.cells (z.cells.toList.map sW) o hl hp ho
          ⟨by simp,λi h1 h2=>by rw [List.getElem_map];exact oO G w _⟩ J
        refine⟨.agg B,run_build t parts R N L w Z,?_⟩
        have:Value.agg B=Value.agg B.toList.toArray:=by simp
        rw [this]
        exact tq O.1 O.2
      · cases F
    · cases hs
end
end Go.Eng

/-
  THE ENGINE: addresses of elements and fields, arithmetic and comparisons, lengths, slices of slices.
-/
namespace Go.Eng
set_option linter.unusedSectionVars false
variable [DM]
variable {P:Program}
section
variable {E:Env} {G:Gh} {w:World} {S:Store} {tk:Nat} {U:Nat->Prop} {dst:Option Nat}
theorem RepD.int_inv {I:Nat->Nat->Prop} {u:Value} {k:IntKind} {n:Int} (h:RepD I w u (.int k n)):u = .int k n:=by cases h;rfl
theorem RepD.bool_inv {I:Nat->Nat->Prop} {u:Value} {b:Bool} (h:RepD I w u (.bool b)):u = .bool b:=by cases h;rfl
theorem RepD.str_inv {I:Nat->Nat->Prop} {u:Value} {s:ByteArray} (h:RepD I w u (.str s)):u = .string s:=by cases h;rfl
theorem lX {t e:TypeId} (h:bG P t=some e):P.underlying t=some (.slice e):=by
  unfold bG at h
  split at h
  · rename_i e' he;simp only [so_]at h;subst h;exact he
  · cases h
theorem RepD.sl_len {I:Nat->Nat->Prop} {u:Value} {xs:List (List D)} (h:RepD I w u (.sl xs)):∃a cap,u = .slice a xs.length cap/\xs.length<=cap\/∃a cap,u = .slice a 0 cap/\xs=[]:=by
  cases h with
  | sl0 a cap=>exact⟨none,0,.inr ⟨a,cap,rfl,rfl⟩⟩
  | sl b off cap sz xs us hcap hsz hI hc ho h=>exact⟨_,_,.inl ⟨rfl,hcap⟩⟩
theorem Jb (h:Inv E G w S tk U) {t:TypeId} {u v:Value} {x i:V} {A:Eff} (O:RepV G w u x) (hi:RepV G w v i) (f:kr P t x i=some A) :
    eG P E (do pure (.value (<- Instr.indexAt t u v))) dst G w S tk U A:=by
  unfold kr at f
  split at f
  · rename_i size k n hsz
    simp only [Option.bind_eq_some_iff]at hsz
    obtain ⟨e,he,hsz⟩:=hsz
    have N:=lX he
    have T:=hi.d_inv.int_inv
    subst T
    cases hn:decide (0<=n)with
    | false=>simp only [hn,cond_false]at f;cases f
    | true =>
      have I:0<=n:=of_decide_eq_true hn
      simp only [hn,cond_true]at f
      split at f
      · rename_i xs
        split at f
        · rename_i cs M
          cases hb:Nat.beq cs.length size with
          | false=>simp only [hb,cond_false]at f;cases f
          | true =>
            simp only [hb,cond_true]at f
            rw [fV f]
            obtain ⟨B,rfl⟩:=List.getElem?_eq_some_iff.1 M
            have J:=Nat.eq_of_beq_eq_true hb
            cases O.d_inv with
            | sl0 a cap=>simp at B
            | sl b off cap sz _ us hcap hs hI hc _ R =>
              have F:sz=size:=by rw [<- hs _ B,J]
              subst F
              refine eG.still h (u := .pointer (some ⟨b,off+n.toNat*sz,none⟩)) ?_ ?_
              · have h1:(0<=n/\n<(xs.length:Int)):=⟨I,by omega⟩
                simp only [Instr.indexAt,asIntOf,Sem.run_bind,Sem.run_pure,Result.andThen_ok,bn N,h1,run_sizeOf hsz,addr_add,and_self,if_true]
              · exact .d (.ptr _ _ _ (λj=>us n.toNat j) (λj hj=>hI _ j B (by omega)) (λj hj=>hc _ j B (by omega)) (λj hj=>R _ j B hj))
        · cases f
      · rename_i Y sz k len
        cases hb:(Nat.ble (n.toNat+1) len&&Nat.beq sz size)with
        | false=>simp only [hb,cond_false]at f;cases f
        | true =>
          simp only [hb,cond_true]at f
          rw [fV f]
          simp only [Bool.and_eq_true]at hb
          have h1:=Nat.le_of_ble_eq_true hb.1
          have h2:=Nat.eq_of_beq_eq_true hb.2
          subst h2
          cases O with
          | vs0=>omega
          | vs _ _ cap L hc W =>
            rename_i b o
            refine eG.still h (u := .pointer (some ⟨b,o+k*sz+n.toNat*sz,none⟩)) ?_ ?_
            · have h1:(0<=n/\n<(len:Int)):=⟨I,by omega⟩
              simp only [Instr.indexAt,asIntOf,Sem.run_bind,Sem.run_pure,Result.andThen_ok,bn N,h1,run_sizeOf hsz,addr_add,and_self,if_true]
            · have:o+k*sz+n.toNat*sz=o+(k+n.toNat)*sz+0:=by rw [Nat.add_mul];omega
              rw [this]
              exact .ref _ _ L
      · cases f
  · cases f
theorem EX {t:TypeId} {f:Nat} {o:Field} (h:Al P t f=some o):∃fs,P.underlying t=some (.struct fs)/\fs[f]? = some o:=by
  unfold Al at h
  split at h
  · rename_i fs j;exact⟨fs,j,h⟩
  · cases h
theorem I9 (h:Inv E G w S tk U) {t:TypeId} {u:Value} {x:V} {f:Nat} {A:Eff} (M:RepV G w u x) (B:kN P t x f=some A) :
    eG P E (do pure (.value (<- Instr.fieldAt t u f))) dst G w S tk U A:=by
  unfold kN at B
  split at B
  · rename_i I L
    obtain ⟨fs,T,R⟩:=EX L
    split at B
    · rename_i s hsz
      have F:∀b o,(Instr.fieldAt t (.pointer (some ⟨b,o,none⟩)) f).run P w = .ok (.pointer (some ⟨b,o+I.offset,none⟩)) w:=by
        intro b o
        simp only [Instr.fieldAt,Sem.run_bind,bn T,Result.andThen_ok,R,Instr.sureAddr,Sem.run_pure,fieldPlace,run_sizeOf hsz,addr_add]
        simp
      split at B
      · rename_i cs
        cases hb:Nat.ble I.offset cs.length with
        | false=>simp only [hb,cond_false]at B;cases B
        | true =>
          simp only [hb,cond_true]at B
          rw [fV B]
          have N:=Nat.le_of_ble_eq_true hb
          cases M.d_inv with
          | ptr _ _ _ us hI hc O =>
            refine eG.still h (F _ _) (.d (.ptr _ _ _ (λj=>us (I.offset+j)) (λj hj => ?_) (λj hj => ?_) (λj hj => ?_)))
            · simp only [List.length_drop]at hj
              rw [Nat.add_assoc];exact hI _ (by omega)
            · simp only [List.length_drop]at hj
              rw [Nat.add_assoc];exact hc _ (by omega)
            · rw [List.getElem_drop];exact O _ (by simp only [List.length_drop]at hj;omega)
      · rename_i n i j
        rw [fV B]
        obtain ⟨b,o,sz,J,rfl⟩:=M.ref_inv
        refine eG.still h (F _ _) ?_
        rw [Nat.add_assoc]
        exact .ref i (j+I.offset) J
      · cases B
    · cases B
  · cases B
theorem IE {t:TypeId} {size:Nat} (hsz:szT P t=some size) (w:World) (cs:Array Value) (off:Nat) :
    (part t cs off).run P w=if bU P t then .ok (.agg (cs.extract off (off+size))) w else match cs[off]? with
      | some v => .ok v w
      | none => .halt (.stuck "part: no such cell") w := by
  simp only [part,Sem.run_bind,Ez hsz,Result.andThen_ok]
  split
  · simp only [Sem.run_bind,run_sizeOf hsz,Result.andThen_ok,Sem.run_pure]
  · generalize cs[off]? = r
    cases r <;> rfl
theorem DU {t:TypeId} {size:Nat} (hsz:szT P t=some size) (w:World) (arr:List Value) (ds:List D) (off:Nat) (hl:arr.length=ds.length)
    (o:∀i (h1:i<arr.length) (h2:i<ds.length),RepD G.imm w arr[i] ds[i]) {v:V} (h:rdD (bU P t) size (ds.drop off)=some v) :
    ∃u,(part t arr.toArray off).run P w = .ok u w/\RepV G w u v:=by
  rw [IE hsz]
  unfold rdD at h
  cases ha:bU P t with
  | true =>
    simp only [ha,cond_true]at h
    cases hb:Nat.ble size (ds.drop off).length with
    | false=>simp only [hb,cond_false]at h;cases h
    | true =>
      simp only [hb,cond_true,so_]at h
      subst h
      have j:=Nat.le_of_ble_eq_true hb
      simp only [List.length_drop]at j
      refine⟨_,rfl,.d ?_⟩
      have e:arr.toArray.extract off (off+size)=((arr.drop off).take size).toArray:=by
        apply Array.ext'
        simp [List.extract_eq_take_drop]
      rw [e]
      refine .agg _ _ (by simp;omega) (λi h1 h2 => ?_)
      simp only [List.getElem_take,List.getElem_drop]
      simp at h1 h2
      exact o _ (by omega) (by omega)
  | false =>
    simp only [ha,cond_false]at h
    split at h
    · rename_i c rest hc
      simp only [so_]at h
      subst h
      have f:off<ds.length:=by
        rcases Nat.lt_or_ge off ds.length with h|h
        · exact h
        · rw [List.drop_eq_nil_of_le h]at hc;cases hc
      have A:ds[off]=c:=by
        rw [List.drop_eq_getElem_cons f]at hc
        exact (List.cons.inj hc).1
      refine⟨arr[off],by simp [show off<arr.length by omega],.d ?_⟩
      rw [<- A]
      exact o off (by omega) f
    · cases h
theorem Us {t:TypeId} {size:Nat} (hsz:szT P t=some size) (w:World) (arr:List Value) (ds:List V) (off:Nat) (hl:arr.length=ds.length)
    (o:∀i (h1:i<arr.length) (h2:i<ds.length),RepV G w arr[i] ds[i]) {v:V} (h:rdV (bU P t) size (ds.drop off)=some v) :
    ∃u,(part t arr.toArray off).run P w = .ok u w/\RepV G w u v:=by
  rw [IE hsz]
  unfold rdV at h
  cases ha:bU P t with
  | true =>
    simp only [ha,cond_true]at h
    cases hb:Nat.ble size (ds.drop off).length with
    | false=>simp only [hb,cond_false]at h;cases h
    | true =>
      simp only [hb,cond_true,so_]at h
      subst h
      have j:=Nat.le_of_ble_eq_true hb
      simp only [List.length_drop]at j
      refine⟨_,rfl,?_⟩
      have e:arr.toArray.extract off (off+size)=((arr.drop off).take size).toArray:=by
        apply Array.ext'
        simp [List.extract_eq_take_drop]
      rw [e]
      refine tq (by simp;omega) (λi h1 h2 => ?_)
      simp only [List.getElem_take,List.getElem_drop]
      simp at h1 h2
      exact o _ (by omega) (by omega)
  | false =>
    simp only [ha,cond_false]at h
    split at h
    · rename_i c rest hc
      simp only [so_]at h
      subst h
      have f:off<ds.length:=by
        rcases Nat.lt_or_ge off ds.length with h|h
        · exact h
        · rw [List.drop_eq_nil_of_le h]at hc;cases hc
      have A:ds[off]=c:=by
        rw [List.drop_eq_getElem_cons f]at hc
        exact (List.cons.inj hc).1
      refine⟨arr[off],by simp [show off<arr.length by omega],?_⟩
      rw [<- A]
      exact o off (by omega) f
    · cases h
theorem Re {t:TypeId} {u:Value} {x v:V} {f:Nat} (A:RepV G w u x) (h:KQ P t x f=some v) :
    ∃r,(Instr.field t u f).run P w = .ok r w/\RepV G w r v:=by
  unfold KQ at h
  split at h
  · rename_i B o
    obtain ⟨fs,I,F⟩:=EX o
    split at h
    · rename_i size hsz
      split at h
      · rename_i ds
        cases A.d_inv with
        | agg arr _ hl j =>
          obtain ⟨r,h1,h2⟩:=DU hsz w arr ds B.offset hl j h
          exact⟨r,by simpa [Instr.field,bn I,F,asAgg]using h1,h2⟩
      · rename_i vs
        cases A with
        | agg arr _ hl j =>
          obtain ⟨r,h1,h2⟩:=Us hsz w arr vs B.offset hl j h
          exact⟨r,by simpa [Instr.field,bn I,F,asAgg]using h1,h2⟩
      · cases h
    · cases h
  · cases h
theorem R8 {op:BinOp} (hs:Jg op=false) {k:IntKind} {a b:Int} {x:D} (f:Nf op k a b=some x) (t:TypeId) (w:World) :
    ∃r,(binOp op t (.int k a) (.int k b)).run P w = .ok r w/\∀I,RepD I w r x:=by
  have j:∀{c:D},(if b=0 then Option.none else some c)=some x->b≠0/\c=x:=by
    intro c h
    by_cases hb:b=0
    · rw [if_pos hb]at h;cases h
    · rw [if_neg hb]at h;exact⟨hb,Option.some.inj h⟩
  cases op with
  | shl=>simp [Jg]at hs
  | shr=>simp [Jg]at hs
  | quo =>
    obtain ⟨hb,rfl⟩:=j f
    exact⟨.int k (k.wrap (a.tdiv b)),by simp [binOp,Op.intDiv,hb],λI => .int _ _⟩
  | rem =>
    obtain ⟨hb,rfl⟩:=j f
    exact⟨.int k (a.tmod b),by simp [binOp,Op.intDiv,hb],λI => .int _ _⟩
  | andNot=>cases f
  | _ =>
    simp only [Nf,so_]at f
    subst f
    exact⟨_,by simp [binOp,Op.intArith,Op.intCmp,Op.intBits];rfl,λI=>by first | exact .int _ _ | exact .bool _⟩
theorem shOp_ok {op:BinOp} (h:Jg op=true) {k k':IntKind} {a b:Int} {x:D} (f:Ul op k a b=some x) (t:TypeId) (w:World) :
    ∃r,(binOp op t (.int k a) (.int k' b)).run P w = .ok r w/\∀I,RepD I w r x:=by
  unfold Ul at f
  split at f
  · cases f
  rename_i hb
  split at f
  · simp only [so_]at f;subst f
    exact⟨.int k (k.wrap (a*2 ^ (min b.toNat k.bits))),by simp [binOp,Op.shift,hb],λI => .int _ _⟩
  · simp only [so_]at f;subst f
    exact⟨.int k (a.fdiv (2 ^ (min b.toNat k.bits))),by simp [binOp,Op.shift,hb],λI => .int _ _⟩
  · cases f
theorem RP {op:BinOp} {a b:ByteArray} {x:D} (f:PV op a b=some x) (t:TypeId) (w:World) :
    ∃r,(binOp op t (.string a) (.string b)).run P w = .ok r w/\∀I,RepD I w r x:=by
  have hb:∀op,binOp op t (.string a) (.string b)=Op.stringOp op a b:=by intro op;cases op <;> simp [binOp]
  rw [hb]
  cases op <;> simp only [PV,so_]at f <;>
    first
    | (subst f;exact⟨_,rfl,λI => .bool _⟩)
    | (split at f
       · cases f
       · rename_i hb
         simp only [so_]at f
         subst f
         exact⟨.string (a++b),by simp only [Op.stringOp];rw [if_neg hb];rfl,λI => .str _⟩)
    | cases f
theorem qx (op:BinOp) (t:TypeId) (x y:Operand) (a b:Value) (h:∀xs ys,¬(a = .agg xs/\b = .agg ys)) (f:¬(a = .nilIface/\b = .nilIface)) (w:World) :
    (eqGuard op t x y a b).run P w = .ok () w:=by
  unfold eqGuard
  split
  · rw [if_neg (by decide)]
    split
    · exact absurd ⟨rfl,rfl⟩ f
    · exact absurd ⟨rfl,rfl⟩ (h _ _)
    · rfl
  · rw [if_neg (by decide)]
    split
    · exact absurd ⟨rfl,rfl⟩ f
    · exact absurd ⟨rfl,rfl⟩ (h _ _)
    · rfl
  · rw [if_pos (by rfl)];rfl
theorem binF_ok {op:BinOp} {t:TypeId} {ox oy:Operand} {u u':Value} {x y v:V} (j:RepV G w u x) (F:RepV G w u' y) (f:I7 op x y=some v) :
    ∃r,(do eqGuard op t ox oy u u';binOp op t u u').run P w = .ok r w/\RepV G w r v:=by
  unfold I7 at f
  split at f
  · rename_i k a k' b
    have B:=j.d_inv.int_inv
    have A:=F.d_inv.int_inv
    subst B A
    have o:=qx (P:=P) op t ox oy (.int k a) (.int k' b) (λ_ _ h=>by cases h.1) (λh=>by cases h.1) w
    cases hs:Jg op with
    | true =>
      simp only [hs,cond_true,Option.map_eq_some_iff]at f
      obtain ⟨x,j,rfl⟩:=f
      obtain ⟨r,h1,h2⟩:=shOp_ok (P:=P) (k':=k') hs j t w
      exact⟨r,by simp [o,h1],.d (h2 _)⟩
    | false =>
      simp only [hs,cond_false]at f
      split at f
      · rename_i I
        subst I
        simp only [Option.map_eq_some_iff]at f
        obtain ⟨x,j,rfl⟩:=f
        obtain ⟨r,h1,h2⟩:=R8 (P:=P) hs j t w
        exact⟨r,by simp [o,h1],.d (h2 _)⟩
      · cases f
  · rename_i a b
    have B:=j.d_inv.str_inv
    have A:=F.d_inv.str_inv
    subst B A
    have o:=qx (P:=P) op t ox oy (.string a) (.string b) (λ_ _ h=>by cases h.1) (λh=>by cases h.1) w
    simp only [Option.map_eq_some_iff]at f
    obtain ⟨x,j,rfl⟩:=f
    obtain ⟨r,h1,h2⟩:=RP (P:=P) j t w
    exact⟨r,by simp [o,h1],.d (h2 _)⟩
  · cases f
theorem unF_ok {op:UnOp} {u:Value} {x v:V} (h:RepV G w u x) (f:unF op x=some v):∃r,(Op.unary op u).run P w = .ok r w/\RepV G w r v:=by
  unfold unF at f
  split at f
  · simp only [so_]at f;subst f
    rw [h.d_inv.int_inv]
    exact⟨_,rfl,.d (.int _ _)⟩
  · simp only [so_]at f;subst f
    rw [h.d_inv.bool_inv]
    exact⟨_,rfl,.d (.bool _)⟩
  · cases f
end
end Go.Eng

/-
  THE ENGINE: comparisons of structs, lengths, slices of slices, slice literals, make.
-/
namespace Go.Eng
set_option linter.unusedSectionVars false
variable [DM]
variable {P:Program}
section
variable {E:Env} {G:Gh} {w:World} {S:Store} {tk:Nat} {U:Nat->Prop} {dst:Option Nat}
theorem Fq (n:Nat) (R:∀(t:TypeId) (x y:D) (u v:Value) (b:Bool) (m:Nat),n<=m->RepD G.imm w u x->RepD G.imm w v y->eqD P n t x y=some b->(Op.equalIn m t u v).run P w = .ok b w)
  (m:Nat) (O:n<=m) (arr j:List Value) (xs ys:List D) (M:RepD G.imm w (.agg arr.toArray) (.agg xs)) (L:RepD G.imm w (.agg j.toArray) (.agg ys)) :
  ∀(fs:List Field) (b:Bool),fs.foldr (λf F =>
    match szT P f.type,F with
    | some size,some r =>
     match rdD (bU P f.type) size (xs.drop f.offset),rdD (bU P f.type) size (ys.drop f.offset)with
     | some (.d a), some (.d b) => if f.name = "_" then some r else (eqD P n f.type a b).map (· && r)
     | _,_=>Option.none
    | _,_=>Option.none) (some true)=some b->(Op.eqFields m arr.toArray j.toArray fs).run P w = .ok b w
 | [],b,h=>by
  simp only [List.foldr_nil,so_]at h
  subst h;rfl
 | f::fs,b,h=>by
  simp only [List.foldr_cons]at h
  generalize I:(fs.foldr _ (some true))=F at h
  split at h
  ·rename_i size r hsz
   split at h
   ·rename_i a c ha hc
    have B:=Fq n R m O arr j xs ys M L fs r I
    have T:arr.length=xs.length/\∀i (h1:i<arr.length) (h2:i<xs.length),RepD G.imm w arr[i] xs[i]:=by
     generalize J:Value.agg arr.toArray=A at M
     cases M with
     | agg o _ hl N =>
      simp only [Value.agg.injEq]at J
      have:arr=o:=by simpa using congrArg Array.toList J
      subst this;exact⟨hl,N⟩
    have W:j.length=ys.length/\∀i (h1:i<j.length) (h2:i<ys.length),RepD G.imm w j[i] ys[i]:=by
     generalize J:Value.agg j.toArray=A at L
     cases L with
     | agg o _ hl N =>
      simp only [Value.agg.injEq]at J
      have:j=o:=by simpa using congrArg Array.toList J
      subst this;exact⟨hl,N⟩
    obtain ⟨Z,Y,q1⟩:=DU (G:=G) hsz w arr xs f.offset T.1 T.2 ha
    obtain ⟨u2,p2,q2⟩:=DU (G:=G) hsz w j ys f.offset W.1 W.2 hc
    by_cases hn : f.name = "_"
    ·rw [if_pos hn]at h
     simp only [so_]at h
     subst h
     simp only [Op.eqFields,hn,ne_eq,not_true_eq_false,if_false]
     exact B
    ·rw [if_neg hn]at h
     simp only [Option.map_eq_some_iff]at h
     obtain ⟨e,he,rfl⟩:=h
     have h3:=R f.type a c Z u2 e m O q1.d_inv q2.d_inv he
     simp only [Op.eqFields,ne_eq,hn,not_false_eq_true,if_true,Sem.run_bind,Y,p2,Result.andThen_ok,h3]
     cases e
     ·simp
     ·simpa using B
   ·cases h
  ·cases h
theorem Lj:∀(n:Nat) (t:TypeId) (x y:D) (u v:Value) (b:Bool) (m:Nat),n<=m->RepD G.imm w u x->RepD G.imm w v y->eqD P n t x y=some b ->
  (Op.equalIn m t u v).run P w = .ok b w
 | 0,_,_,_,_,_,_,_,_,_,_,h=>by simp [eqD]at h
 | n+1,t,x,y,u,v,b,m,O,B,A,h=>by
  obtain ⟨m,rfl⟩:∃J,m=J+1:=⟨m-1,by omega⟩
  simp only [eqD]at h
  split at h
  ·rename_i a c f
   simp only [so_]at h;subst h
   rw [B.bool_inv,A.bool_inv]
   simp [Op.equalIn,bn f]
  ·rename_i R k a k' c f
   split at h
   ·rename_i M
    subst M
    simp only [so_]at h;subst h
    rw [B.int_inv,A.int_inv]
    simp [Op.equalIn,bn f]
   ·cases h
  ·rename_i a c f
   simp only [so_]at h;subst h
   rw [B.str_inv,A.str_inv]
   exact run_equalIn_string w m t a c f
  ·rename_i fs xs ys f
   cases hp:P.stoodInHeld t with
   | true=>simp only [hp,cond_true]at h;cases h
   | false =>
    simp only [hp,cond_false]at h
    have o:P.fieldsOf t=fs:=by simp [Program.fieldsOf,f]
    have L:=Lj n
    cases B with
    | agg arr _ hl N =>
     cases A with
     | agg j _ I F =>
      rw [run_equalIn_struct w m t arr.toArray j.toArray (by rw [o];exact f) hp,o]
      exact Fq n L m (by omega) arr j xs ys (.agg arr xs hl N) (.agg j ys I F) fs.toList b h
  ·cases h
theorem Sv {op:BinOp} {t:TypeId} {ox oy:Operand} {u u':Value} {x y v:V} (F:RepV G w u x) (I:RepV G w u' y) (f:sH P op t x y=some v) :
  ∃r,(do eqGuard op t ox oy u u';binOp op t u u').run P w = .ok r w/\RepV G w r v:=by
 unfold sH at f
 split at f
 ·rename_i xs ys
  cases A:P.eqGuardType P.depth t with
  | true=>simp only [A,cond_true]at f;cases f
  | false =>
   simp only [A,cond_false]at f
   have o:=F.d_inv
   have j:=I.d_inv
   obtain ⟨arr,rfl⟩:∃arr,u = .agg arr:=by cases o with|agg arr _ _ _=>exact⟨_,rfl⟩
   obtain ⟨J,rfl⟩:∃arr,u' = .agg arr:=by cases j with|agg arr _ _ _=>exact⟨_,rfl⟩
   have B:=run_eqGuard_agg w op t ox oy arr J A
   split at f
   ·simp only [Option.map_eq_some_iff]at f
    obtain ⟨b,hb,rfl⟩:=f
    have:=Lj 8 t _ _ _ _ b 10000 (by omega) o j hb
    exact⟨.bool b,by simp only [Sem.run_bind,B,Result.andThen_ok,run_eql_struct,this],.d (.bool b)⟩
   ·simp only [Option.map_eq_some_iff]at f
    obtain ⟨b,hb,rfl⟩:=f
    have:=Lj 8 t _ _ _ _ b 10000 (by omega) o j hb
    exact⟨.bool !b,by simp only [Sem.run_bind,B,Result.andThen_ok,run_neq_struct,this],.d (.bool _)⟩
   ·cases f
 ·rename_i a b
  rw [F.d_inv.bool_inv,I.d_inv.bool_inv]
  have A:=qx (P:=P) op t ox oy (.bool a) (.bool b) (λ_ _ h=>by cases h.1) (λh=>by cases h.1) w
  split at f
  ·rename_i L
   simp only [so_]at f;subst f
   exact⟨.bool (a==b),by simp only [Sem.run_bind,A,Result.andThen_ok];simp [binOp,Op.equal,Op.maxDepth,run_equalIn_bool' w 9999 t a b L],.d (.bool _)⟩
  ·rename_i L
   simp only [so_]at f;subst f
   exact⟨.bool (!(a==b)),by simp only [Sem.run_bind,A,Result.andThen_ok];simp [binOp,Op.equal,Op.maxDepth,run_equalIn_bool' w 9999 t a b L],.d (.bool _)⟩
  ·cases f
 ·exact binF_ok F I f
theorem yn (w:World) (d:Nat) (t:TypeId) {ms} (h:P.underlying t=some (.interface ms)):(Op.equalIn (d+1) t .nilIface .nilIface).run P w = .ok true w:=by
 simp [Op.equalIn,run_underlying h]
theorem JZ {u:Value} {x:V} {b:Bool} (f:RepV G w u x) (h:HV x=some b):∃p,u = .pointer p/\p.isNone=b:=by
 unfold HV at h
 split at h
 ·simp only [so_]at h;subst h
  cases f with
  | ref=>exact⟨_,rfl,rfl⟩
 ·simp only [so_]at h;subst h
  cases f.d_inv with
  | ptr=>exact⟨_,rfl,rfl⟩
 ·simp only [so_]at h;subst h
  cases f.d_inv with
  | nilp=>exact⟨_,rfl,rfl⟩
 ·cases h
theorem ptrF_ok {op:BinOp} {t:TypeId} {ox oy:Operand} {u u':Value} {x y v:V} (F:RepV G w u x) (I:RepV G w u' y) (f:RY P op t x y=some v) :
  ∃r,(do eqGuard op t ox oy u u';binOp op t u u').run P w = .ok r w/\RepV G w r v:=by
 unfold RY at f
 split at f
 ·rename_i b hb
  obtain ⟨p,rfl,rfl⟩:=JZ F hb
  obtain ⟨J,rfl,A⟩:=JZ I (b:=true) rfl
  cases J with
  | some a=>cases A
  | none =>
  have B:=qx (P:=P) op t ox oy (.pointer p) (.pointer none) (λ_ _ h=>by cases h.1) (λh=>by cases h.1) w
  split at f
  ·rename_i e o
   have j:P.underlying t=some (.pointer (P.pointee t)):=by rw [o];simp only [Program.pointee,o]
   simp only [so_]at f;subst f
   exact⟨_,by simp only [Sem.run_bind,B,Result.andThen_ok,run_eql_pointer_nil w t p j],.d (.bool _)⟩
  ·rename_i e o
   have j:P.underlying t=some (.pointer (P.pointee t)):=by rw [o];simp only [Program.pointee,o]
   simp only [so_]at f;subst f
   exact⟨_,by simp only [Sem.run_bind,B,Result.andThen_ok,run_neq_pointer_nil w t p j],.d (.bool _)⟩
  ·cases f
 ·cases f
theorem nilF_ok {op:BinOp} {t:TypeId} {ox oy:Operand} {u u':Value} {x y v:V} (o:RepV G w u x) (A:RepV G w u' y) (f:RL P op t ox oy x y=some v) :
  ∃r,(do eqGuard op t ox oy u u';binOp op t u u').run P w = .ok r w/\RepV G w r v:=by
 unfold RL at f
 split at f
 ·cases o
  cases A
  have hc:(Js ox||Js oy)=true:=by
   cases h:(Js ox||Js oy)with
   | true=>rfl
   | false=>rw [h]at f;cases f
  rw [hc,cond_true]at f
  have B:(op matches .eql | .neq)=true->(eqGuard op t ox oy .nilIface .nilIface).run P w = .ok () w:=λho=>by
   cases op <;> first | (cases ho;done) | (cases ox <;> cases oy <;> first | rfl | (cases hc;done))
  split at f
  ·rename_i ms j _
   simp only [so_]at f;subst f
   refine⟨.bool true,?_,.d (.bool _)⟩
   simp only [Sem.run_bind,B rfl,Result.andThen_ok]
   simp [binOp,Op.equal,Op.maxDepth,yn w 9999 t j]
  ·rename_i ms j _
   simp only [so_]at f;subst f
   refine⟨.bool false,?_,.d (.bool _)⟩
   simp only [Sem.run_bind,B rfl,Result.andThen_ok]
   simp [binOp,Op.equal,Op.maxDepth,yn w 9999 t j]
  ·cases f
 ·exact ptrF_ok o A f
theorem TJ {op:BinOp} {t:TypeId} {ox oy:Operand} {u u':Value} {x y v:V} (h:RepV G w u x) (j:RepV G w u' y) (f:DY P op t ox oy x y=some v) :
  ∃r,(do eqGuard op t ox oy u u';binOp op t u u').run P w = .ok r w/\RepV G w r v:=by
 unfold DY at f
 split at f
 ·rename_i v' o
  simp only [so_]at f;subst f
  exact Sv h j o
 ·exact nilF_ok h j f
theorem QQ {t:TypeId} {u u':Value} {x i v:V} (A:RepV G w u x) (hi:RepV G w u' i) (f:Ah P t x i=some v) :
  ∃r,(Instr.index t u u').run P w = .ok r w/\RepV G w r v:=by
 unfold Ah at f
 split at f
 ·rename_i s k n j
  rw [A.d_inv.str_inv,hi.d_inv.int_inv]
  cases hn:decide (0<=n)with
  | false=>simp only [hn,cond_false]at f;cases f
  | true =>
   have o:=of_decide_eq_true hn
   simp only [hn,cond_true,Option.map_eq_some_iff]at f
   obtain ⟨b,hb,rfl⟩:=f
   exact⟨_,by simp only [Instr.index,asIntOf,Sem.run_bind,Sem.run_pure,Result.andThen_ok,bn j,o,if_true,hb],.d (.int _ _)⟩
 ·rename_i n e ds k m j
  split at f
  ·rename_i size hsz
   cases hc:(decide (0<=m)&&Nat.blt m.toNat n)with
   | false=>simp only [hc,cond_false]at f;cases f
   | true =>
    simp only [hc,cond_true]at f
    simp only [Bool.and_eq_true,decide_eq_true_eq,Nat.blt_eq]at hc
    rw [hi.d_inv.int_inv]
    cases A.d_inv with
    | agg arr _ hl F =>
     obtain ⟨r,h1,h2⟩:=DU hsz w arr ds (m.toNat*size) hl F f
     obtain ⟨I,d,B,i2,_⟩:=yh hsz
     have h:(sizeOf e).run P w = .ok size w:=by simp [sizeOf,typeInfo,B,i2]
     refine⟨r,?_,h2⟩
     simp only [Instr.index,asIntOf,Sem.run_bind,Sem.run_pure,Result.andThen_ok,bn j]
     rw [if_pos ⟨hc.1,by omega⟩]
     simp only [Sem.run_bind,h,Result.andThen_ok]
     exact h1
  ·cases f
 ·cases f
theorem LZ {u:Value} {x v:V} {i:Nat} (h:RepV G w u x) (f:DJ x i=some v):∃r,(Instr.extract u i).run P w = .ok r w/\RepV G w r v:=by
 unfold DJ at f
 split at f
 ·rename_i vs
  obtain ⟨h1,rfl⟩:=List.getElem?_eq_some_iff.1 f
  cases h with
  | tup arr _ hl j=>exact⟨arr[i],by simp [Instr.extract,show i<arr.length by omega],j i (by omega) h1⟩
 ·cases f
theorem Lt {u:Value} {x v:V} (h:RepV G w u x) (f:Bz x=some v) (o:Oper) (ox:Operand) (ρ:Operand->Value) (ho:o.op = .nilCheck ox) (j:ρ ox=u) :
  (execOp ρ o).run P w = .ok (.value u) w/\RepV G w u v:=by
 unfold Bz at f
 split at f
 ·simp only [so_]at f;subst f
  obtain ⟨b,A,sz,h1,rfl⟩:=h.ref_inv
  exact⟨by simp [execOp,ho,j],h⟩
 ·simp only [so_]at f;subst f
  refine⟨?_,h⟩
  cases h.d_inv with
  | ptr=>simp [execOp,ho,j]
 ·simp only [so_]at f;subst f
  refine⟨?_,h⟩
  cases h with
  | fn=>simp [execOp,ho,j]
 ·cases f
theorem Ty {s t:TypeId} {u:Value} {x v:V} (j:RepV G w u x) (f:zI P s t x=some v):∃r,(convert s t u).run P w = .ok r w/\RepV G w r v:=by
 unfold zI at f
 split at f
 ·rename_i d k k' n hs h
  simp only [so_]at f;subst f
  rw [j.d_inv.int_inv]
  refine⟨.int k (k.wrap n),?_,.d (.int _ _)⟩
  simp only [convert,Sem.run_bind,bn hs,bn h,Result.andThen_ok]
  cases d <;> rfl
 ·rename_i d o hs h
  simp only [so_]at f;subst f
  rw [j.d_inv.str_inv]
  refine⟨.string o,?_,.d (.str _)⟩
  simp only [convert,Sem.run_bind,bn hs,bn h,Result.andThen_ok]
  cases d <;> rfl
 ·rename_i d k' n hs h
  simp only [so_]at f;subst f
  rw [j.d_inv.int_inv]
  refine⟨.string (Utf8.encode n),?_,.d (.str _)⟩
  simp only [convert,Sem.run_bind,bn hs,bn h,Result.andThen_ok]
  rfl
 ·cases f
theorem lenF_ok {t ty:TypeId} {u:Value} {x v:V} (j:RepV G w u x) (f:FM P t x=some v):∃r,(Builtin.len_ #[t] ty #[u]).run P w = .ok r w/\RepV G w r v:=by
 unfold FM at f
 split at f
 ·rename_i s h
  simp only [so_]at f;subst f
  rw [j.d_inv.str_inv]
  exact⟨.int .i64 s.size,by simp [Builtin.len_,bn h,goInt],.d (.int _ _)⟩
 ·rename_i e xs h
  simp only [so_]at f;subst f
  rcases j.d_inv.sl_len with⟨a,cap,⟨rfl,_⟩|⟨A,o,rfl,rfl⟩⟩
  ·exact⟨.int .i64 xs.length,by simp [Builtin.len_,bn h,goInt],.d (.int _ _)⟩
  ·exact⟨.int .i64 0,by simp [Builtin.len_,bn h,goInt],.d (.int _ _)⟩
 ·rename_i e h
  simp only [so_]at f;subst f
  cases j with
  | nil a=>exact⟨.int .i64 0,by simp [Builtin.len_,bn h,goInt],.d (.int _ _)⟩
 ·rename_i e n sz k len h
  simp only [so_]at f;subst f
  cases j with
  | vs0=>exact⟨.int .i64 0,by simp [Builtin.len_,bn h,goInt],.d (.int _ _)⟩
  | vs=>exact⟨.int .i64 len,by simp [Builtin.len_,bn h,goInt],.d (.int _ _)⟩
 ·cases f
theorem KP {y:Nat} {n:Int} {k:IntKind} (h:0<=n) (h1:n<=y) (f:BoundsCode) (w:World):(Instr.sliceBound (.int k n) y f).run P w = .ok n.toNat w:=by
 simp [Instr.sliceBound,asIntOf,h,h1]
def zT (G:Gh) (w:World):Option Value->Option V->Prop
 | none,none=>True
 | some u,some v=>RepV G w u v
 | _,_=>False
theorem Ef {d l:Nat} {u:Option Value} {v:Option V} (h:zT G w u v) (f:rD d v=some l) :
  (u=none/\v=none/\l=d)\/∃k n,u=some (.int k n)/\0<=n/\l=n.toNat:=by
 unfold rD at f
 split at f
 ·simp only [so_]at f
  cases u with
  | none=>exact .inl ⟨rfl,rfl,f.symm⟩
  | some u=>exact h.elim
 ·rename_i k n
  cases u with
  | none=>exact h.elim
  | some u =>
   have:=RepV.d_inv h |>.int_inv
   subst this
   cases hn:decide (0<=n)with
   | false=>simp only [hn,cond_false]at f;cases f
   | true =>
    simp only [hn,cond_true,so_]at f
    exact .inr ⟨k,n,rfl,of_decide_eq_true hn,f.symm⟩
 ·cases f
theorem qH {isSlice:Bool} {len cap l h:Nat} {lo hi:Option Value} {j o:Option V} (F:zT G w lo j) (L:zT G w hi o)
  (hl:rD 0 j=some l) (J:rD len o=some h) (M:l<=h) (N:h<=cap) (B:len<=cap) :
  (Instr.sliceBounds isSlice len cap lo hi none).run P w = .ok (l,h,cap) w:=by
 unfold Instr.sliceBounds
 rcases Ef L J with⟨rfl,_,rfl⟩|⟨k,n,rfl,I,rfl⟩
 ·rcases Ef F hl with⟨rfl,_,rfl⟩|⟨k',A,rfl,f,rfl⟩
  ·simp
  ·have e':=KP (P:=P) (k:=k') f (show A<=(h:Int) by omega)
   simp [e']
 ·have e:=KP (P:=P) (k:=k) I (show n<=(cap:Int) by omega)
  rcases Ef F hl with⟨rfl,_,rfl⟩|⟨k',A,rfl,f,rfl⟩
  ·simp [e]
  ·have e':=KP (P:=P) (k:=k') f (show A<=(n.toNat:Int) by omega)
   simp [e,e']
end
end Go.Eng

/-
  THE ENGINE: slices of slices, make, slice literals, append.
-/
namespace Go.Eng
set_option linter.unusedSectionVars false
variable [DM]
variable {P:Program}
section
variable {E:Env} {G:Gh} {w:World} {S:Store} {tk:Nat} {U:Nat->Prop} {dst:Option Nat}
theorem Gs {u:Option Value} {v:Option V} (h:zT G w u v) (f:is0 v=true):∃k,u=some (.int k 0):=by
 unfold is0 at f
 split at f
 ·rename_i k n
  have j:=of_decide_eq_true f
  subst j
  cases u with
  | none=>exact h.elim
  | some u=>exact⟨k,by rw [(RepV.d_inv h).int_inv]⟩
 ·cases f
theorem OQ {lo hi mx:Option Value} {j A o:Option V} (B:zT G w lo j) (I:zT G w hi A) (L:zT G w mx o) (h:A8 j A o=true)
  (isSlice:Bool) (len cap:Nat):(Instr.sliceBounds isSlice len cap lo hi mx).run P w = .ok (0,0,0) w:=by
 simp only [A8,Bool.and_eq_true]at h
 obtain ⟨h1,h2,F⟩:=h
 obtain ⟨k,rfl⟩:=Gs I h2
 obtain ⟨k',rfl⟩:=Gs L F
 have e:∀(k:IntKind) (y:Nat) f,(Instr.sliceBound (.int k 0) y f).run P w = .ok 0 w:=λk y f=>by
  simp [Instr.sliceBound,asIntOf]
 cases j with
 | none =>
  cases lo with
  | none=>simp [Instr.sliceBounds,e]
  | some u=>exact B.elim
 | some v =>
  obtain ⟨J,rfl⟩:=Gs B h1
  simp [Instr.sliceBounds,e]
theorem PN {u:Option Value} {v:Option V} {n:Nat} (h:zT G w u v) (f:isN v n=true):∃k,u=some (.int k (n:Int)):=by
 unfold isN at f
 split at f
 ·rename_i k m
  have j:=of_decide_eq_true f
  subst j
  cases u with
  | none=>exact h.elim
  | some u=>exact⟨k,by rw [(RepV.d_inv h).int_inv]⟩
 ·cases f
theorem JQ {lo hi mx:Option Value} {j A o:Option V} {n:Nat} (B:zT G w lo j) (J:zT G w hi A) (M:zT G w mx o) (h:Qy j A o n=true)
  (isSlice:Bool) (len cap:Nat) (hc:n<=cap):(Instr.sliceBounds isSlice len cap lo hi mx).run P w = .ok (0,n,n) w:=by
 simp only [Qy,Bool.and_eq_true]at h
 obtain ⟨h1,h2,I⟩:=h
 obtain ⟨k,rfl⟩:=PN J h2
 obtain ⟨k',rfl⟩:=PN M I
 have e:∀(k:IntKind) (y:Nat) f,n<=y->(Instr.sliceBound (.int k (n:Int)) y f).run P w = .ok n w:=λk y f N=>by
  simp [Instr.sliceBound,asIntOf];omega
 have F:∀(k:IntKind) (y:Nat) f,(Instr.sliceBound (.int k 0) y f).run P w = .ok 0 w:=λk y f=>by
  simp [Instr.sliceBound,asIntOf]
 cases j with
 | none =>
  cases lo with
  | none=>simp [Instr.sliceBounds,e _ _ _ hc,e _ _ _ (Nat.le_refl n)]
  | some u=>exact B.elim
 | some v =>
  obtain ⟨L,rfl⟩:=Gs B h1
  simp [Instr.sliceBounds,e _ _ _ hc,e _ _ _ (Nat.le_refl n),F]
theorem ql {t e:TypeId} (f:P.underlying t=some (.slice e)) (u:Value) (lo hi mx:Option Value) (w:World):(Instr.sliceAt t u lo hi mx).run P w=(Instr.slice t u lo hi mx).run P w:=by
 simp only [Instr.sliceAt,Sem.run_bind,bn f,Result.andThen_ok]
theorem QJ {t:TypeId} {u:Value} {x v:V} {lo hi mx:Option Value} {J I vmx:Option V} (T:RepV G w u x) (R:zT G w lo J) (O:zT G w hi I) (rm:zT G w mx vmx)
  (f:mo P t x J I vmx=some v):∃r,(Instr.sliceAt t u lo hi mx).run P w = .ok r w/\RepV G w r v:=by
 unfold mo at f
 split at f
 ·have hm:mx=none:=by
   cases mx with
   | none=>rfl
   | some _=>exact rm.elim
  subst hm
  split at f
  ·rename_i s A
   split at f
   ·rename_i l h hl N
    split at f
    ·rename_i hc
     simp only [so_]at f;subst f
     rw [T.d_inv.str_inv]
     have hb:=qH (P:=P) (isSlice:=false) R O hl N hc.1 hc.2 (Nat.le_refl _)
     refine⟨.string (s.extract l h),?_,.d (.str _)⟩
     simp only [Instr.sliceAt,Sem.run_bind,bn A,Result.andThen_ok,Instr.slice]
     simp only [Option.isSome_none,Bool.false_eq_true,if_false,Sem.run_bind,Sem.run_pure,Result.andThen_ok,hb]
    ·cases f
   ·cases f
  ·rename_i e xs A
   split at f
   ·rename_i size l h hsz hl N
    split at f
    ·rename_i hc
     simp only [so_]at f;subst f
     rw [ql A]
     have B:((xs.take h).drop l).length=h-l:=by simp;omega
     have W:∀i (hi:i<xs.length),xs[i].length=size:=λi hi=>Nat.eq_of_beq_eq_true (List.all_eq_true.1 hc.2.2 _ (List.getElem_mem hi))
     cases T.d_inv with
     | sl0 a cap =>
      have Z:h=0:=by simpa using hc.2.1
      have Y:l=0:=by omega
      subst Z Y
      have hb:=qH (P:=P) (isSlice:=true) (len:=0) (cap:=cap) R O hl N (Nat.le_refl _) (Nat.zero_le _) (Nat.zero_le _)
      exact⟨_,by simp only [Instr.slice,Sem.run_bind,bn A,Result.andThen_ok,hb,run_sizeOf hsz,Sem.run_pure];rfl,.d (.sl0 _ _)⟩
     | sl b off cap sz _ us hcap hs hI F L hr =>
      have hb:=qH (P:=P) (isSlice:=true) (len:=xs.length) (cap:=cap) R O hl N hc.1 (by omega) hcap
      refine⟨.slice (if cap=l then some ⟨b,off,none⟩else some ⟨b,off+l*size,none⟩) (h-l) (cap-l),?_,.d ?_⟩
      ·simp only [Instr.slice,Sem.run_bind,bn A,Result.andThen_ok,hb,run_sizeOf hsz,Sem.run_pure,Option.map_some,addr_add]
      ·by_cases hz:h-l=0
       ·have e0:(xs.take h).drop l=[]:=by rw [<- List.length_eq_zero_iff,B];exact hz
        rw [e0,hz]
        exact .sl0 _ _
       ·rw [if_neg (by omega),<- B]
        have hszz:sz=size:=by rw [<- hs 0 (by omega),W 0 (by omega)]
        subst hszz
        refine .sl b (off+l*sz) (cap-l) sz _ (λi j=>us (l+i) j) (by rw [B];omega) (λi hi => ?_) (λi j hi hj => ?_) (λi j hi hj => ?_) (λi j hi hj=>L _ j (by rw [B]at hi;omega) hj) (λi j hi hj => ?_)
        ·rw [List.getElem_drop,List.getElem_take];exact W _ (by rw [B]at hi;omega)
        ·rw [B]at hi
         have:=hI (l+i) j (by omega) hj
         rwa [Nat.add_mul,<- Nat.add_assoc]at this
        ·rw [B]at hi
         have:=F (l+i) j (by omega) hj
         rwa [Nat.add_mul,<- Nat.add_assoc]at this
        ·rw [B]at hi
         simp only [List.getElem_drop,List.getElem_take]at hj ⊢
         exact hr (l+i) j (by omega) hj
    ·cases f
   ·cases f
  ·rename_i e n sz k len A
   split at f
   ·rename_i size l h hsz hl N
    split at f
    ·rename_i hc
     simp only [so_]at f;subst f
     obtain ⟨hc1,hc2,rfl⟩:=hc
     rw [ql A]
     cases T with
     | vs0 _ _ _ a =>
      have Z:h=0:=by omega
      have Y:l=0:=by omega
      subst Z Y
      have hb:=qH (P:=P) (isSlice:=true) (len:=0) (cap:=0) R O hl N (Nat.le_refl _) (Nat.le_refl _) (Nat.le_refl _)
      exact⟨_,by simp only [Instr.slice,Sem.run_bind,bn A,Result.andThen_ok,hb,run_sizeOf hsz,Sem.run_pure];rfl,.vs0 _ _ _ _⟩
     | vs _ _ cap hmu hcap hbd =>
      rename_i b o
      have hb:=qH (P:=P) (isSlice:=true) (len:=len) (cap:=cap) R O hl N hc1 (by omega) hcap
      refine⟨.slice (if cap=l then some ⟨b,o+k*size,none⟩else some ⟨b,o+k*size+l*size,none⟩) (h-l) (cap-l),?_,?_⟩
      ·simp only [Instr.slice,Sem.run_bind,bn A,Result.andThen_ok,hb,run_sizeOf hsz,Sem.run_pure,Option.map_some,addr_add]
      ·by_cases hz:cap=l
       ·rw [if_pos hz]
        have e1:h-l=0:=by omega
        have e2:cap-l=0:=by omega
        rw [e1,e2]
        exact .vs0 _ _ _ _
       ·rw [if_neg hz,Nat.add_assoc,<- Nat.add_mul]
        exact .vs (k+l) (h-l) (cap-l) hmu (by omega) (by rw [show k+l+(cap-l)=k+cap by omega];exact hbd)
    ·cases f
   ·cases f
  ·rename_i e A
   split at f
   ·rename_i size l h hsz hl N
    split at f
    ·rename_i hc
     simp only [so_]at f;subst f
     obtain ⟨rfl,rfl⟩:=hc
     rw [ql A]
     cases T with
     | nil a =>
      have hb:=qH (P:=P) (isSlice:=true) (len:=0) (cap:=0) R O hl N (Nat.le_refl _) (Nat.le_refl _) (Nat.le_refl _)
      exact⟨_,by simp only [Instr.slice,Sem.run_bind,bn A,Result.andThen_ok,hb,run_sizeOf hsz,Sem.run_pure];rfl,.nil _⟩
    ·cases f
   ·cases f
  ·cases f
 ·rename_i vm
  have done:∀{e:TypeId} {a:Option Addr} {len cap:Nat},P.underlying t=some (.slice e)->(∃s,szT P e=some s)->u = .slice a len cap->A8 J I (some vm)=true ->
    ∃r,(Instr.sliceAt t u lo hi mx).run P w = .ok r w/\RepV G w r .nil:=by
   rintro e a len cap A ⟨s,hs⟩ rfl h3
   rw [ql A]
   have hb:=OQ (P:=P) R O rm h3 true len cap
   exact⟨_,by simp only [Instr.slice,Sem.run_bind,bn A,Result.andThen_ok,hb,run_sizeOf hs,Sem.run_pure];rfl,.nil _⟩
  have M:∀{e:TypeId},P.underlying t=some (.slice e)->(∃a len cap,u = .slice a len cap)->(match szT P e with
   | some _=>bif A8 J I (some vm)then some V.nil else Option.none
   | Option.none=>Option.none)=some v->∃r,(Instr.sliceAt t u lo hi mx).run P w = .ok r w/\RepV G w r v:=by
   rintro e A ⟨a,len,cap,rfl⟩ h3
   split at h3
   ·rename_i s hs
    cases h4:A8 J I (some vm)with
    | true =>
     simp only [h4,cond_true,so_]at h3
     subst h3
     exact done A ⟨s,hs⟩ rfl h4
    | false=>simp only [h4,cond_false]at h3;cases h3
   ·cases h3
  split at f
  ·rename_i e xs A
   split at f
   ·rename_i s hs
    cases h4:A8 J I (some vm)with
    | true =>
     rw [h4,cond_true,so_]at f
     subst f
     cases T.d_inv with
     | sl0 a cap=>exact done A ⟨s,hs⟩ rfl h4
     | sl=>exact done A ⟨s,hs⟩ rfl h4
    | false =>
     rw [h4,cond_false]at f
     cases h5:Qy J I (some vm) xs.length with
     | false=>rw [h5]at f;cases f
     | true =>
      rw [h5,cond_true,so_]at f
      subst f
      rw [ql A]
      cases T.d_inv with
      | sl0 a cap =>
       have hb:=JQ (P:=P) R O rm h5 true 0 cap (Nat.zero_le _)
       exact⟨_,by simp only [Instr.slice,Sem.run_bind,bn A,Result.andThen_ok,hb,run_sizeOf hs,Sem.run_pure];rfl,.d (.sl0 _ _)⟩
      | sl b off cap sz _ us hcap hs' hI F L hr =>
       have hb:=JQ (P:=P) R O rm h5 true xs.length cap hcap
       refine⟨.slice (some ⟨b,off,none⟩) xs.length xs.length,?_,.d (.sl b off xs.length sz _ us (Nat.le_refl _) hs' hI F L hr)⟩
       simp only [Instr.slice,Sem.run_bind,bn A,Result.andThen_ok,hb,run_sizeOf hs,Sem.run_pure,Option.map_some,addr_add,Nat.zero_mul,Nat.add_zero,Nat.sub_zero,ite_self]
   ·cases f
  ·rename_i e n sz k len A
   refine M A ?_ f
   cases T with
   | vs0=>exact⟨_,_,_,rfl⟩
   | vs=>exact⟨_,_,_,rfl⟩
  ·rename_i e A
   refine M A ?_ f
   cases T with
   | nil a=>exact⟨_,_,_,rfl⟩
  ·cases f
end
end Go.Eng

/-
  THE ENGINE: new rows of elements: make, slice literals, append.
-/
namespace Go.Eng
set_option linter.unusedSectionVars false
variable [DM]
variable {P:Program}
section
variable {E:Env} {G:Gh} {w:World} {S:Store} {tk:Nat} {U:Nat->Prop} {dst:Option Nat}
theorem all_vec (sz:Nat) (xs:List (List D)):(Box.vec sz xs).all=(xs.map λx=>x.map V.d).flatten:=rfl
theorem Na {xs:List (List D)} {sz:Nat} (h:∀x∈xs,x.length=sz):∀x∈xs.map (λx=>x.map V.d),x.length=sz:=by
  intro x j
  obtain ⟨y,f,rfl⟩:=List.mem_map.1 j
  rw [List.length_map];exact h y f
theorem Dn {xs:List (List D)} {sz:Nat} (h:∀x∈xs,x.length=sz):(Box.vec sz xs).all.length=xs.length*sz:=by
  rw [all_vec,tQ sz _ (Na h)];simp
theorem Im {xs:List (List D)} {sz:Nat} (h:∀x∈xs,x.length=sz) (k:Nat) (F:k<(Box.vec sz xs).all.length) :
    ∃(hi:k / sz<xs.length) (hj:k % sz<xs[k / sz].length),(Box.vec sz xs).all[k] = .d xs[k / sz][k % sz]:=by
  have j:=Dn h
  have f:k<xs.length*sz:=j ▸ F
  have A:0<sz:=by
    rcases Nat.eq_zero_or_pos sz with o|o
    · subst o;simp at f
    · exact o
  have hi:k / sz<xs.length:=(Nat.div_lt_iff_lt_mul A).2 f
  have hl:xs[k / sz].length=sz:=h _ (List.getElem_mem hi)
  have hj:k % sz<xs[k / sz].length:=by rw [hl];exact Nat.mod_lt _ A
  refine⟨hi,hj,?_⟩
  obtain ⟨h1,h2⟩:=flat_get sz _ (Na h) (k / sz) (k % sz) (by simpa using hi) (by simpa using hj)
  have e:k / sz*sz+k % sz=k:=Nat.div_add_mod' k sz
  have:(Box.vec sz xs).all[k]? = some (.d xs[k / sz][k % sz]):=by
    have B:((xs.map λx=>x.map V.d).flatten)[k / sz*sz+k % sz]? = some (.d xs[k / sz][k % sz]):=by
      rw [List.getElem?_eq_getElem h1,h2];simp
    rw [e]at B
    exact B
  rw [List.getElem?_eq_getElem F]at this
  exact Option.some.inj this
theorem Hf {G':Gh} {w':World} {b o sz:Nat} {arr:Array Value} {elem:TypeId} {xs:List (List D)} (hb:w'.heap[b]? = some (.cells arr elem (0,0)))
    (A:∀x∈xs,x.length=sz) (f:o+xs.length*sz<=arr.size) (h:∀B,¬G'.imm b B)
    (F:∀i j (hi:i<xs.length) (hj:j<xs[i].length),∃u,arr[o+(i*sz+j)]? = some u/\u.oneCell'=true/\RepD G'.imm w' u xs[i][j]):Stands G' w' (.vec sz xs) b o sz where
  sz:=rfl
  even:=A
  room:=by rw [Dn A,bR hb];exact f
  cell k hk:=by
    obtain ⟨hi,hj,e⟩:=Im A k hk
    obtain ⟨u,h1,ho,h2⟩:=F _ _ hi hj
    rw [Nat.div_add_mod']at h1
    exact⟨u,by rw [cell_of_row hb];exact h1,ho,by rw [e];exact .d h2⟩
  free _:=⟨⟨arr,elem,hb⟩,h⟩
  froz hx:=by simp [Box.mut]at hx
theorem wh (h:Inv E G w S tk U) {dst:Nat} (I:¬U dst) (elem:TypeId) (arr:Array Value) {sz:Nat} {xs:List (List D)} (B:∀x∈xs,x.length=sz)
    (f:xs.length*sz<=arr.size) (F:∀i j (hi:i<xs.length) (hj:j<xs[i].length),∃u,arr[i*sz+j]? = some u/\u.oneCell'=true/\RepD G.imm w u xs[i][j]) :
    Inv E ⟨G.imm,λm=>if m=(dst,tk)then some (w.heap.size,0,sz)else G.mu m⟩ (w.alloc (.cells arr elem)) (supd S (dst,tk) (some (.vec sz xs))) tk (λu=>U u\/u=dst) /\
    Ext G w ⟨G.imm,λm=>if m=(dst,tk)then some (w.heap.size,0,sz)else G.mu m⟩ (w.alloc (.cells arr elem)) :=
  h.allocBox dst I (.cells arr elem) (.vec sz xs) (λG' o e=>by
    have hs:Stands G' (w.alloc (.cells arr elem)) (.vec sz xs) w.heap.size 0 sz :=
      Hf (jY w _) B (by simpa using f) (λJ A=>Nat.lt_irrefl _ (h.immB _ _ ((o _ _).1 A)))
        (λi j hi hj=>by
          obtain ⟨u,h1,ho,h2⟩:=F i j hi hj
          exact⟨u,by simpa using h1,ho,h2.ext e.imm e.cell⟩)
    exact hs)
theorem Inv.drew (h:Inv E G w S tk U):Inv E G w.drew S tk U/\Ext G w G w.drew :=
  h.more (λ_ _=>rfl) (Nat.le_refl _) rfl rfl rfl (λ_ _ h=>h) (λ_ _ h => .inl h) rfl (λ_ h=>h)
theorem eG.of {s:Sem Value} {u:Value} {w':World} {G':Gh} {A:Eff} (f:s.run P w = .ok u w') (e:Ext G w G' w')
    (hi:Inv E G' w' (fo S A.upd) tk (λn=>U n\/dst=some (n % 100000))) (h:RepV G' w' u A.val):eG P E (do pure (.value (<- s))) dst G w S tk U A :=
  ⟨.value u,u,w',G',by simp only [Sem.run_bind,f,Result.andThen_ok,Sem.run_pure],.inl rfl,e,hi,h⟩
theorem LW (z:Array Value) (n i:Nat) (h:i<n):((Array.range n).map (λk=>z[k % z.size]!))[i]? = some (z[i % z.size]!):=by
  simp [h]
theorem IZ (G:Gh) (w:World) {l:List Value} {ds:List D} (h:EE (l.map sW)=some ds):l.length=ds.length/\∀i (h1:i<l.length) (h2:i<ds.length),RepD G.imm w l[i] ds[i]:=by
  have e:=Et h
  have hl:l.length=ds.length:=by have:=congrArg List.length e;simpa using this
  refine⟨hl,λi h1 h2 => ?_⟩
  have f:(l.map sW)[i]? = (ds.map V.d)[i]? := by rw [e]
  rw [List.getElem?_map,List.getElem?_map,List.getElem?_eq_getElem h1,List.getElem?_eq_getElem h2]at f
  have j:sW l[i] = .d ds[i]:=Option.some.inj f
  have:=oO G w l[i]
  rw [j]at this
  exact this.d_inv
theorem wrap_small {n:Int} (f:0<=n) (h1:n<=2 ^ 48):IntKind.i64.wrap n=n:=by
  have e:n % (18446744073709551616:Int)=n:=Int.emod_eq_of_lt f (by omega)
  have h:¬((9223372036854775808:Int)<=n):=by omega
  simp [IntKind.wrap,IntKind.bits,IntKind.signed,e,h]
theorem xA {e:TypeId} {size:Nat} (h:szT P e=some size):∃i,P.info? e=some i/\i.bytes=fI P e/\i.size=size:=by
  obtain ⟨i,d,h1,h2,_⟩:=yh h
  exact⟨i,h1,by simp [fI,h1],h2⟩
theorem mH {e:TypeId} {z:List V} (h:zeroCells P e=some z):∃f,(P.info? e).bind (·.zero)=some f/\z=f.cells.toList.map sW:=by
  simp only [zeroCells,Option.map_eq_some_iff]at h
  obtain ⟨f,h1,rfl⟩:=h
  exact⟨f,h1,rfl⟩
theorem run_makeSlice {t e:TypeId} (F:P.underlying t=some (.slice e)) {size:Nat} (hsz:szT P e=some size) {j:Value} (J:(P.info? e).bind (·.zero)=some j)
    {k k':IntKind} {n:Int} (I:0<=n) (h1:n*fI P e<=2 ^ 48) (h2:n<=2 ^ 48) (L:0<size) (w:World) :
    ∃arr:Array Value,(Instr.makeSlice t (.int k n) (.int k' n)).run P w = .ok (.slice (some ⟨w.heap.size,0,none⟩) n.toNat n.toNat) (w.alloc (.cells arr e)) /\
      arr=(Array.range (n.toNat*size)).map (λi=>j.cells[i % j.cells.size]!):=by
  obtain ⟨i,B,i2,i3⟩:=xA hsz
  refine⟨_,?_,rfl⟩
  have A:=wrap_small I h2
  have hb:¬((281474976710656:Int)<(i.bytes:Int)*n):=by rw [i2,Int.mul_comm];omega
  have f:¬n<0:=by omega
  by_cases hnz:n.toNat*size=0
  · have o:n.toNat=0:=by
      rcases Nat.mul_eq_zero.1 hnz with h|h
      · exact h
      · omega
    simp [Instr.makeSlice,bn F,asInt,asIntOf,typeInfo,B,A,hb,f,run_sizeOf hsz,o,ow,show Array.range 0 = #[] from rfl]
  · simp [Instr.makeSlice,bn F,asInt,asIntOf,typeInfo,B,A,hb,f,run_sizeOf hsz,hnz,nL J,ow]
theorem G6 {t e:TypeId} (I:P.underlying t=some (.slice e)) {size:Nat} (hsz:szT P e=some size) {o:Value} (L:(P.info? e).bind (·.zero)=some o)
    {k k':IntKind} {n:Int} (J:0<=n) (h1:n*fI P e<=2 ^ 48) (h2:n<=2 ^ 48) (M:0<size) (w:World) :
    ∃arr:Array Value,(Instr.makeSlice t (.int k 0) (.int k' n)).run P w = .ok (.slice (some ⟨w.heap.size,0,none⟩) 0 n.toNat) (w.alloc (.cells arr e))/\arr.size=n.toNat*size:=by
  obtain ⟨i,F,i2,i3⟩:=xA hsz
  have B:=wrap_small J h2
  have f:IntKind.i64.wrap 0=0:=wrap_small (by omega) (by omega)
  have hb:¬((281474976710656:Int)<(i.bytes:Int)*n):=by rw [i2,Int.mul_comm];omega
  have j:¬n<0:=by omega
  refine⟨(Array.range (n.toNat*size)).map (λi=>o.cells[i % o.cells.size]!),?_,by simp⟩
  by_cases hnz:n.toNat*size=0
  · have A:n.toNat=0:=by
      rcases Nat.mul_eq_zero.1 hnz with h|h
      · exact h
      · omega
    simp [Instr.makeSlice,bn I,asInt,asIntOf,typeInfo,F,B,f,hb,j,run_sizeOf hsz,A,ow,show Array.range 0 = #[] from rfl]
  · simp [Instr.makeSlice,bn I,asInt,asIntOf,typeInfo,F,B,f,hb,j,run_sizeOf hsz,hnz,nL L,ow]
theorem Jh (h:Inv E G w S tk U) {d:Nat} (T:d<100000) (hd:¬U d) {t:TypeId} {u u':Value} {l c:V} {A:Eff} (hl:RepV G w u l) (hc:RepV G w u' c) (o:qM P t l c d tk=some A) :
    eG P E (do pure (.value (<- Instr.makeSlice t u u'))) (some d) G w S tk U A:=by
  unfold qM at o
  split at o
  · rename_i e k n k' m he
    have hu:=lX he
    rw [hl.d_inv.int_inv,hc.d_inv.int_inv]
    split at o
    · rename_i size z hsz hz
      split at o
      · rename_i B
        obtain ⟨rfl,h0,h1,h2,hzl,L⟩:=B
        obtain ⟨F,W,rfl⟩:=mH hz
        obtain ⟨arr,I,f⟩:=G6 (P:=P) (k:=k) (k':=k') hu hsz W h0 h1 h2 L w
        simp only [so_]at o;subst o
        obtain ⟨a1,a2⟩:=wh h hd e arr (sz:=size) (xs:=[]) (λx Y=>by cases Y) (by simp) (λi j hi hj=>absurd hi (by simp))
        refine eG.of I a2 (a1.mono (λn Z=>Z.imp id (λe=>by rw [e,Nat.mod_eq_of_lt T]))) ?_
        have:(⟨w.heap.size,0,none⟩:Addr)=⟨w.heap.size,0+0*size,none⟩:=by simp
        rw [this]
        exact .vs 0 _ _ (by simp) (Nat.zero_le _) (by rw [bR (jY w _),f];simp)
      split at o
      · rename_i B
        obtain ⟨h0,rfl,h1,h2,hzl,L,N⟩:=B
        obtain ⟨F,W,rfl⟩:=mH hz
        obtain ⟨arr,I,J⟩:=run_makeSlice (P:=P) (k:=k) (k':=k') hu hsz W h0 h1 h2 L w
        have R:F.cells.size=size:=by simpa using hzl
        have f:arr.size=n.toNat*size:=by rw [J];simp
        split at o
        · rename_i ds hds
          simp only [so_]at o;subst o
          obtain ⟨q1,q2⟩:=IZ G w hds
          have q1':F.cells.size=ds.length:=by simpa using q1
          obtain ⟨a1,a2⟩:=wh h hd e arr (sz:=size) (xs:=List.replicate n.toNat ds) (λx Y=>by rw [(List.mem_replicate.1 Y).2,<- q1',R]) (by simp [f]) (λi j hi hj=>by
            simp only [List.length_replicate]at hi
            simp only [List.getElem_replicate]at hj ⊢
            have hj':j<size:=by omega
            have hlt:i*size+j<n.toNat*size:=Nat.lt_of_lt_of_le (by omega:i*size+j<i*size+size) (by rw [<- Nat.succ_mul];exact Nat.mul_le_mul_right _ hi)
            have M:∀k (hk:k<F.cells.toList.length),(F.cells.toList[k]).oneCell'=true:=λk hk =>
              (oO G w _).oneCell (List.all_eq_true.1 N _ (List.mem_map.2 ⟨_,List.getElem_mem hk,rfl⟩))
            refine⟨F.cells[j]!,?_,by rw [getElem!_pos F.cells j (show j<F.cells.size by omega)];exact M j (by simp;omega),?_⟩
            · rw [J,LW _ _ _ hlt,R,Nat.mul_add_mod',Nat.mod_eq_of_lt hj']
            · have:=q2 j (by simp;omega) hj
              simpa [getElem!_pos,show j<F.cells.size by omega]using this)
          refine eG.of I a2 (a1.mono (λn Z=>Z.imp id (λe=>by rw [e,Nat.mod_eq_of_lt T]))) ?_
          have:(⟨w.heap.size,0,none⟩:Addr)=⟨w.heap.size,0+0*size,none⟩:=by simp
          rw [this]
          exact .vs 0 _ _ (by simp) (Nat.le_refl _) (by rw [bR (jY w _),f];simp)
        · split at o
          · rename_i M
            subst M
            simp only [so_]at o;subst o
            have hz1:F.cells.toList.length=1:=by simpa using R
            obtain ⟨c0,hc0⟩:=List.length_eq_one_iff.1 hz1
            have O:F.cells = #[c0]:=by apply Array.ext';exact hc0
            have hlen:((List.replicate n.toNat ((F.cells.toList.map sW).headD .any))).length=n.toNat:=by simp
            obtain ⟨a1,a2⟩:=h.allocBox d hd (.cells arr e) (.cells 1 (List.replicate n.toNat ((F.cells.toList.map sW).headD .any))) (λG' hG' e'=>by
              have hb:=jY w (.cells arr e)
              have hs:Stands G' (w.alloc (.cells arr e)) (.cells 1 (List.replicate n.toNat ((F.cells.toList.map sW).headD .any))) w.heap.size 0 1 :=
                { sz:=rfl,even:=trivial
                  room:=by rw [bR hb,f];simp [Box.all]
                  cell:=λj hj=>by
                    have hj':j<n.toNat:=by simpa [Box.all]using hj
                    refine⟨c0,?_,(oO G w c0).oneCell (List.all_eq_true.1 N _ (List.mem_map.2 ⟨c0,by rw [hc0];simp,rfl⟩)),?_⟩
                    · rw [cell_of_row hb,Nat.zero_add,J,LW _ _ _ (by omega),O];simp [Nat.mod_one]
                    · simp only [Box.all,List.getElem_replicate,O,List.map_cons,List.headD_cons]
                      exact oO _ _ c0
                  free:=λ_=>⟨⟨arr,e,hb⟩,λo' ho'=>Nat.lt_irrefl _ (h.immB _ _ ((hG' _ _).1 ho'))⟩
                  froz:=λY=>by simp [Box.mut]at Y
                  cel:=⟨rfl,λhs=>absurd hs (by decide)⟩ }
              exact hs)
            refine eG.of I a2 (a1.mono (λn Z=>Z.imp id (λe=>by rw [e,Nat.mod_eq_of_lt T]))) ?_
            have:(⟨w.heap.size,0,none⟩:Addr)=⟨w.heap.size,0+0*1,none⟩:=by simp
            rw [this]
            exact .vs 0 _ _ (by simp [Box.sz]) (Nat.le_refl _) (by rw [bR (jY w _),f];simp)
          · cases o
      · cases o
    · cases o
  · cases o
end
end Go.Eng

