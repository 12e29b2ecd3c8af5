/-
  The engine: what the machine does to data, shown once for all programs (part 1).
-/
import Derived.Laws.Sem
import Derived.Lib.ItoaNum
import Derived.Lib.LaidTab
import Derived.Shelf.Unicode.DecodeSlow
import Derived.Test.YtadpbmfnnlkdlacGreatDoorProg
import Derived.Still
import Derived.MapKept
import Derived.Laws.World
import Derived.Laws.Cells
import Derived.Laws.CopyRow
import Derived.Laws.Strings
import Derived.Laws.Pointers
import Derived.Laws.StructEq
/-
  THE ENGINE: what is known of the package-level variables when the law is called: here nothing.
-/
namespace Go.Eng
theorem ob_.{u_1,u_2} {α:Type u_1} {β:Type u_2} (a:α) (f:α->Option β):(some a).bind f=f a:=rfl
theorem so_.{u_1} {α:Type u_1} (a b:α):(some a=some b)=(a=b):=Option.some.injEq a b
theorem ls_ (n:Nat):n<n.succ:=Nat.lt_succ_self n
def Bl : World → Prop := fun w => Go.Lib.TabIs Go.Proofs.Tryz.prog w "internal/strconv.uint64pow10" .u64 Go.Lib.pow10Tab ∧ (∃ m, w.cell? ⟨0, 0, none⟩ = some (.int .i64 m)) ∧ Go.Lib.Utf8Tabs 1 2 w
def byteK:TypeId:=5
class DM where
 dm:Bool
def dmK [DM]:Bool:=DM.dm
instance dmI:DM:=⟨false⟩
@[reducible] def dmT:DM:=⟨true⟩
end Go.Eng

/-
  THE ENGINE, ITS WORDS: data without addresses (D), what a temporary may hold (V), the boxes of a store (Box), and what each operation does to them, computed.
-/
namespace Go.Eng
abbrev Nm:=Nat×Nat
inductive D where
 | int (k:IntKind) (n:Int)
 | bool (b:Bool)
 | str (s:ByteArray)
 | sl (xs:List (List D))
 | agg (cs:List D)
 | ptr (cs:List D)
 | nilp
 | wild (sz len:Nat)
 | wildp (k:Nat)
 | nils
inductive V where
 | d (x:D)
 | nil
 | nilm
 | nili
 | ref (n:Nm) (i j:Nat)
 | vs (n:Nm) (sz k len:Nat)
 | fn (f:FuncId) (caps:List V)
 | agg (cs:List V)
 | tup (vs:List V)
 | map (n:Nm)
 | none
 | any
inductive Box where
 | vec (sz:Nat) (xs:List (List D))
 | froz (sz:Nat) (xs:List (List D))
 | cells (sz:Nat) (cs:List V)
 | map (es:List (D×D))
 | pmap (es:List (D×V))
 | iter (cur:Option (D×V)) (left:List (D×V))
abbrev Store:=Nm->Option Box
structure Eff where
 req:List (Nm×Box)
 upd:List (Nm×Option Box)
 val:V
structure St where
 slots:Nat->V
 store:Store
 tick:Nat
def upd (f:Nat->V) (i:Nat) (v:V):Nat->V:=λj=>bif Nat.beq j i then v else f j
def supd (S:Store) (n:Nm) (b:Option Box):Store:=λm=>if m=n then b else S m
def fP (S:Store):List (Nm×Option Box)->Store
 | []=>S
 | (n,b)::rest=>fP (supd S n b) rest
def Gw:List V->Option (List D)
 | []=>some []
 | .d x::vs=>(Gw vs).map (x :: ·)
 | _::_=>Option.none
def uH:List V->Option (List D)
 | []=>some []
 | .d x::vs=>(uH vs).map (x :: ·)
 | .nil::vs=>(uH vs).map (.sl [] :: ·)
 | _::_=>Option.none
def E8 (vs:List V):V:=match Gw vs with
 | some ds => .d (.agg ds)
 | Option.none => .agg vs
def bB:V->List V
 | .d (.agg ds)=>ds.map .d
 | .agg vs=>vs
 | v=>[v]
def sQ:Value->V
 | .int k n => .d (.int k n)
 | .bool b => .d (.bool b)
 | .string s => .d (.str s)
 | .slice Option.none 0 0 => .nil
 | .pointer Option.none => .d .nilp
 | .map Option.none => .nilm
 | .nilIface => .nili
 | _ => .any
def valV:Value->V
 | .agg cs=>E8 (cs.toList.map sQ)
 | .tuple vs=>if vs.size=0 then .none else .any
 | v=>sQ v
def ev (sl:Nat->V):Operand->V
 | .tmp t=>sl t
 | .const v=>valV v
 | .func f => .fn f []
 | .global _ => .any
def bW (P:Program) (t:TypeId):Bool:=match P.underlying t with
 | some (.struct _) | some (.array _ _)=>true
 | _=>false
def szT (P:Program) (t:TypeId):Option Nat:=match P.info? t,P.underlying t with
 | some i,some _=>some i.size
 | _,_=>Option.none
def zI (P:Program) (t:TypeId) (f:Nat):Option Field:=match P.underlying t with
 | some (.struct fs)=>fs[f]?
 | _=>Option.none
def bO (P:Program) (t:TypeId):Option TypeId:=match P.underlying t with
 | some (.slice e)=>some e
 | _=>Option.none
def iE (v:V):Option Eff:=some ⟨[],[],v⟩
def rdD (agg:Bool) (size:Nat) (cs:List D):Option V :=
 bif agg then (bif Nat.ble size cs.length then some (.d (.agg (cs.take size)))else Option.none)
 else match cs with
  | c::_=>some (.d c)
  | []=>Option.none
def rdV (agg:Bool) (size:Nat) (cs:List V):Option V :=
 bif agg then (bif Nat.ble size cs.length then some (E8 (cs.take size))else Option.none)
 else match cs with
  | c::_=>some c
  | []=>Option.none
def vX (P:Program) (t:TypeId) (S:Store) (a:V):Option Eff :=
 match szT P t with
 | Option.none=>Option.none
 | some size =>
 match a with
 | .d (.ptr cs)=>(rdD (bW P t) size cs).bind iE
 | .ref n i j=>match S n with
  | some (.vec sz xs)=>match xs[i]? with
   | some cs=>(rdD (bW P t) size (cs.drop j)).map λv=>⟨[(n,.vec sz xs)],[],v⟩
   | Option.none=>Option.none
  | some (.froz sz xs)=>match xs[i]? with
   | some cs=>(rdD (bW P t) size (cs.drop j)).map λv=>⟨[(n,.froz sz xs)],[],v⟩
   | Option.none=>Option.none
  | some (.cells sz cs)=>(rdV (bW P t) size (cs.drop (i*sz+j))).map λv=>⟨[(n,.cells sz cs)],[],v⟩
  | _=>Option.none
 | _=>Option.none
def splice {α:Type} (cs new:List α) (o:Nat):List α:=cs.take o++new++cs.drop (o+new.length)
def kw:V->Bool
 | .d (.agg _) | .agg _ | .tup _ | .none | .any=>false
 | _=>true
def vN (P:Program) (t:TypeId) (S:Store) (a x:V):Option Eff :=
 match szT P t with
 | Option.none=>Option.none
 | some size =>
 match a with
 | .ref n i j=>match S n with
  | some (.cells sz cs) =>
   bif Nat.beq (bB x).length size&&Nat.ble (i*sz+j+size) cs.length&&(bB x).all kw&&Nat.blt sz 1048576 then
    some ⟨[(n,.cells sz cs)],[(n,some (.cells sz (splice cs (bB x) (i*sz+j))))],.none⟩
   else Option.none
  | some (.vec sz xs)=>match xs[i]?,uH (bB x)with
   | some cs,some new =>
    bif Nat.beq new.length size&&Nat.ble (j+size) cs.length&&(bB x).all kw then
     some ⟨[(n,.vec sz xs)],[(n,some (.vec sz (xs.set i (splice cs new j))))],.none⟩
    else Option.none
   | _,_=>Option.none
  | _=>Option.none
 | .d (.wildp k)=>bif Nat.beq (bB x).length size&&Nat.ble size k&&(bB x).all kw&&Nat.blt 0 size then some ⟨[],[],.none⟩else Option.none
 | _=>Option.none
def zeroCells (P:Program) (t:TypeId):Option (List V):=((P.info? t).bind (·.zero)).map λv=>v.cells.toList.map sQ
def BK (P:Program) (t:TypeId) (dst:Nat) (tk:Nat):Option Eff :=
 match zeroCells P t with
 | some cs=>bif cs.all kw&&Nat.blt cs.length 1048576 then some ⟨[],[((dst,tk),some (.cells cs.length cs))],.ref (dst,tk) 0 0⟩else Option.none
 | Option.none=>Option.none
def AO (P:Program) (t:TypeId) (dst:Nat) (tk:Nat):Option Eff :=
 match zeroCells P t with
 | some [.d .nilp,.nil]=>some ⟨[],[((dst,tk),some (.cells (1048576+t) [.any,.nil]))],.ref (dst,tk) 0 0⟩
 | _=>Option.none
def NH (v:V) (dst tk:Nat):Option Eff :=
 bif (bB v).all kw&&Nat.blt (bB v).length 1048576 then some ⟨[],[((dst,tk),some (.cells (bB v).length (bB v)))],.ref (dst,tk) 0 0⟩else Option.none
def LQ (op:BinOp) (k:IntKind) (a b:Int):Option D :=
 match op with
 | .add=>some (.int k (k.wrap (a+b)))
 | .sub=>some (.int k (k.wrap (a-b)))
 | .mul=>some (.int k (k.wrap (a*b)))
 | .quo=>if b=0 then Option.none else some (.int k (k.wrap (a.tdiv b)))
 | .rem=>if b=0 then Option.none else some (.int k (a.tmod b))
 | .and=>some (.int k (k.wrap (BitVec.ofInt k.bits a &&& BitVec.ofInt k.bits b).toNat))
 | .or=>some (.int k (k.wrap (BitVec.ofInt k.bits a ||| BitVec.ofInt k.bits b).toNat))
 | .xor=>some (.int k (k.wrap (BitVec.ofInt k.bits a ^^^ BitVec.ofInt k.bits b).toNat))
 | .eql=>some (.bool (a==b))
 | .neq=>some (.bool (a != b))
 | .lss=>some (.bool (a<b))
 | .leq=>some (.bool (a<=b))
 | .gtr=>some (.bool (a>b))
 | .geq=>some (.bool (a>=b))
 | _=>Option.none
def Pv (op:BinOp) (x y:ByteArray):Option D :=
 match op with
 | .add=>if ((x.size+y.size:Nat):Int)>IntKind.i64.max then Option.none else some (.str (x++y))
 | .eql=>some (.bool (x.toList==y.toList))
 | .neq=>some (.bool !(x.toList==y.toList))
 | .lss=>some (.bool (Op.bytesLess x.toList y.toList))
 | .leq=>some (.bool (Op.bytesLess x.toList y.toList||x.toList==y.toList))
 | .gtr=>some (.bool !(Op.bytesLess x.toList y.toList||x.toList==y.toList))
 | .geq=>some (.bool !(Op.bytesLess x.toList y.toList))
 | _=>Option.none
def RU (op:BinOp) (k:IntKind) (a b:Int):Option D :=
 if b<0 then Option.none else
 match op with
 | .shl=>some (.int k (k.wrap (a*2 ^ (min b.toNat k.bits))))
 | .shr=>some (.int k (a.fdiv (2 ^ (min b.toNat k.bits))))
 | _=>Option.none
def IR:BinOp->Bool | .shl | .shr=>true | _=>false
def Lp (op:BinOp) (x y:V):Option V :=
 match x,y with
 | .d (.int k a),.d (.int k' b) =>
  bif IR op then (RU op k a b).map .d
  else if k=k' then (LQ op k a b).map .d else Option.none
 | .d (.str a),.d (.str b)=>(Pv op a b).map .d
 | _,_=>Option.none
def unF (op:UnOp) (x:V):Option V :=
 match op,x with
 | .neg,.d (.int k n)=>some (.d (.int k (k.wrap (0-n))))
 | .not,.d (.bool b)=>some (.d (.bool !b))
 | _,_=>Option.none
def lT (P:Program) (t:TypeId) (x i:V):Option Eff :=
 match (bO P t).bind (szT P),i with
 | some size,.d (.int _ i) =>
  bif decide (0<=i)then
  match x with
  | .d (.sl xs)=>match xs[i.toNat]? with
   | some cs=>bif Nat.beq cs.length size then iE (.d (.ptr cs))else Option.none
   | Option.none=>Option.none
  | .vs n sz k len=>bif Nat.ble (i.toNat+1) len&&Nat.beq sz size then iE (.ref n (k+i.toNat) 0)else Option.none
  | .d (.wild sz len)=>bif Nat.ble (i.toNat+1) len&&Nat.beq sz size then iE (.d (.wildp size))else Option.none
  | _=>Option.none
  else Option.none
 | _,_=>Option.none
def kL (P:Program) (t:TypeId) (x:V) (f:Nat):Option Eff :=
 match zI P t f with
 | some h =>
  match szT P h.type with
  | some (_+1) =>
   match x with
   | .d (.ptr cs)=>bif Nat.ble h.offset cs.length then iE (.d (.ptr (cs.drop h.offset)))else Option.none
   | .ref n i j=>iE (.ref n i (j+h.offset))
   | _=>Option.none
  | _=>Option.none
 | Option.none=>Option.none
def K8 (P:Program) (t:TypeId) (x:V) (f:Nat):Option V :=
 match zI P t f with
 | some h=>match szT P h.type with
  | some size=>match x with
   | .d (.agg ds)=>rdD (bW P h.type) size (ds.drop h.offset)
   | .agg vs=>rdV (bW P h.type) size (vs.drop h.offset)
   | _=>Option.none
  | Option.none=>Option.none
 | Option.none=>Option.none
def BA (h:Nat->Option (Nat×Nat)) (cells:List V):List (Nat×V)->Option (List V)
 | []=>some cells
 | (i,v)::rest=>match h i with
  | Option.none=>Option.none
  | some (off,size) =>
   bif Nat.beq (bB v).length size&&Nat.ble (off+size) cells.length then BA h (splice cells (bB v) off) rest
   else Option.none
def bS (P:Program) (t:TypeId) (i:Nat):Option (Nat×Nat) :=
 match zI P t i with
 | some h=>(szT P h.type).map λs=>(h.offset,s)
 | Option.none=>Option.none
def isStruct (P:Program) (t:TypeId):Bool:=match P.underlying t with
 | some (.struct fs)=>fs.all λf=>(P.info? f.type).isSome
 | _=>false
def arrT (P:Program) (t:TypeId):Option Nat:=match P.underlying t with
 | some (.array _ e)=>szT P e
 | _=>Option.none
def Kw (P:Program) (t:TypeId) (parts:List (Nat×V)):Option V :=
 bif isStruct P t then
  match zeroCells P t with
  | some z=>(BA (bS P t) z parts).map E8
  | Option.none=>Option.none
 else match arrT P t,zeroCells P t with
  | some size,some z=>(BA (λi=>some (i*size,size)) z parts).map E8
  | _,_=>Option.none
def wm (size:Nat):Nat->List (Nat×V)->Option (List (List D))
 | _,[]=>some []
 | k,(i,v)::rest=>match uH (bB v),wm size (k+1) rest with
  | some ds,some xs=>bif Nat.beq i k&&Nat.beq ds.length size&&(bB v).all kw then some (ds::xs)else Option.none
  | _,_=>Option.none
def tO (P:Program) (t:TypeId) (len:Nat) (parts:List (Nat×V)) (vm:Bool) (dst tk:Nat):Option Eff :=
 match (bO P t).bind (szT P)with
 | some size=>match wm size 0 parts with
  | some xs=>bif Nat.beq parts.length len&&Nat.ble (len*size) 16777216&&((bO P t).bind (zeroCells P)).isSome then
    (bif vm then some ⟨[],[((dst,tk),some (.vec size xs))],.vs (dst,tk) size 0 len⟩else bif Nat.beq len 0 then iE .nil else iE (.d (.sl xs)))
   else Option.none
  | Option.none=>Option.none
 | Option.none=>Option.none
def EC (P:Program) (t:TypeId) (x:V):Option V :=
 match P.underlying t,x with
 | some .string,.d (.str s)=>some (.d (.int .i64 s.size))
 | some (.slice _),.d (.sl xs)=>some (.d (.int .i64 xs.length))
 | some (.slice _),.nil=>some (.d (.int .i64 0))
 | some (.slice _),.vs _ _ _ len=>some (.d (.int .i64 len))
 | some (.slice _),.d (.wild _ len)=>some (.d (.int .i64 len))
 | _,_=>Option.none
def Db (x:V) (i:Nat):Option V:=match x with
 | .tup vs=>vs[i]?
 | _=>Option.none
def zA (P:Program) (t:TypeId) (x i:V):Option V :=
 match P.underlying t,x,i with
 | some .string,.d (.str s),.d (.int _ i)=>bif decide (0<=i)then (s[i.toNat]?).map λb => .d (.int .u8 b.toNat)else Option.none
 | some (.array n e),.d (.agg ds),.d (.int _ i)=>match szT P e with
  | some size=>bif decide (0<=i)&&Nat.blt i.toNat n then rdD (bW P e) size (ds.drop (i.toNat*size))else Option.none
  | Option.none=>Option.none
 | _,_,_=>Option.none
def eqD (P:Program):Nat->TypeId->D->D->Option Bool
 | 0,_,_,_=>Option.none
 | n+1,t,x,y =>
  match P.underlying t,x,y with
  | some .bool,.bool a,.bool b=>some (a==b)
  | some (.int _),.int k a,.int k' b=>if k=k' then some (a==b)else Option.none
  | some .string,.str a,.str b=>some (a.toList==b.toList)
  | some (.struct fs),.agg xs,.agg ys =>
   bif P.stoodInHeld t then Option.none else
   fs.toList.foldr (λf h =>
    match szT P f.type,h with
    | some size,some r =>
     match rdD (bW P f.type) size (xs.drop f.offset),rdD (bW P f.type) size (ys.drop f.offset)with
     | some (.d a), some (.d b) => if f.name = "_" then some r else (eqD P n f.type a b).map (· && r)
     | _,_=>Option.none
    | _,_=>Option.none) (some true)
  | _,_,_=>Option.none
def uL (P:Program) (op:BinOp) (t:TypeId) (x y:V):Option V :=
 match x,y with
 | .d (.agg xs),.d (.agg ys) =>
  bif P.eqGuardType P.depth t then Option.none else
  match op with
  | .eql=>(eqD P 8 t (.agg xs) (.agg ys)).map λb => .d (.bool b)
  | .neq=>(eqD P 8 t (.agg xs) (.agg ys)).map λb => .d (.bool !b)
  | _=>Option.none
 | .d (.bool a),.d (.bool b) =>
  match P.underlying t,op with
  | some .bool,.eql=>some (.d (.bool (a==b)))
  | some .bool,.neq=>some (.d (.bool (!(a==b))))
  | _,_=>Option.none
 | x,y=>Lp op x y
def Jn:Operand->Bool | .const _=>true | _=>false
def Oe:V->Option Bool
 | .ref _ _ _=>some false
 | .d (.ptr _)=>some false
 | .d .nilp=>some true
 | _=>Option.none
def ptrF (P:Program) (op:BinOp) (t:TypeId) (x y:V):Option V :=
 match Oe x,y with
 | some b,.d .nilp=>match P.underlying t,op with
  | some (.pointer _),.eql=>some (.d (.bool b))
  | some (.pointer _),.neq=>some (.d (.bool !b))
  | _,_=>Option.none
 | _,_=>Option.none
def nilF (P:Program) (op:BinOp) (t:TypeId) (ox oy:Operand) (x y:V):Option V :=
 match x,y with
 | .nili,.nili =>
  bif Jn ox||Jn oy then
  match P.underlying t,op with
  | some (.interface _),.eql=>some (.d (.bool true))
  | some (.interface _),.neq=>some (.d (.bool false))
  | _,_=>Option.none
  else Option.none
 | x,y=>ptrF P op t x y
def Jf (P:Program) (op:BinOp) (t:TypeId) (ox oy:Operand) (x y:V):Option V :=
 match uL P op t x y with
 | some v=>some v
 | Option.none=>nilF P op t ox oy x y
theorem xQ {P:Program} {op:BinOp} {t:TypeId} {ox oy:Operand} {x y v:V} (h:uL P op t x y=some v):Jf P op t ox oy x y=some v:=by unfold Jf;rw [h]
def QU (c a b:V):Option V:=match c with
 | .d (.bool t)=>some (bif t then a else b)
 | _=>Option.none
def Ay (x:V):Option V:=match x with
 | .ref .. | .d (.ptr _)=>some x
 | .fn .. => some x
 | _=>Option.none
def Ja (P:Program) (h dst:TypeId) (x:V):Option V :=
 match P.underlying h,P.underlying dst,x with
 | some _,some (.int k),.d (.int _ n)=>some (.d (.int k (k.wrap n)))
 | some _,some .string,.d (.str s)=>some (.d (.str s))
 | some (.int _),some .string,.d (.int _ n)=>some (.d (.str (Utf8.encode n)))
 | _,_,_=>Option.none
def si (d:Nat):Option V->Option Nat
 | Option.none=>some d
 | some (.d (.int _ n))=>bif decide (0<=n)then some n.toNat else Option.none
 | _=>Option.none
def is0:Option V->Bool
 | some (.d (.int _ n))=>decide (n=0)
 | _=>false
def isNo0:Option V->Bool
 | Option.none=>true
 | v=>is0 v
def zT (h hi mx:Option V):Bool:=isNo0 h&&(is0 hi&&is0 mx)
def isN (v:Option V) (n:Nat):Bool:=match v with
 | some (.d (.int _ k))=>decide (k=(n:Int))
 | _=>false
def OL (h hi mx:Option V) (n:Nat):Bool:=isNo0 h&&(isN hi n&&isN mx n)
def oq (P:Program) (t:TypeId) (x:V) (o hi mx:Option V):Option V :=
 match mx with
 | Option.none =>
  match P.underlying t,x with
  | some .string,.d (.str s) =>
   match si 0 o,si s.size hi with
   | some l,some h=>if l<=h/\h<=s.size then some (.d (.str (s.extract l h)))else Option.none
   | _,_=>Option.none
  | some (.slice e),.d (.sl xs) =>
   match szT P e,si 0 o,si xs.length hi with
   | some size,some l,some h =>
    if l<=h/\h<=xs.length/\xs.all (λx=>Nat.beq x.length size)=true then some (.d (.sl ((xs.take h).drop l)))else Option.none
   | _,_,_=>Option.none
  | some (.slice e),.vs n sz k len =>
   match szT P e,si 0 o,si len hi with
   | some size,some l,some h=>if l<=h/\h<=len/\size=sz then some (.vs n sz (k+l) (h-l))else Option.none
   | _,_,_=>Option.none
  | some (.slice e),.nil =>
   match szT P e,si 0 o,si 0 hi with
   | some _,some l,some h=>if l=0/\h=0 then some .nil else Option.none
   | _,_,_=>Option.none
  | _,_=>Option.none
 | some _ =>
  match P.underlying t,x with
  | some (.slice e),.d (.sl xs) =>
   match szT P e with
   | some _=>bif zT o hi mx then some .nil else bif OL o hi mx xs.length then some (.d (.sl xs))else Option.none
   | Option.none=>Option.none
  | some (.slice e),.vs _ _ _ _ | some (.slice e),.nil =>
   match szT P e with
   | some _=>bif zT o hi mx then some .nil else Option.none
   | Option.none=>Option.none
  | _,_=>Option.none
def iw (P:Program) (t:TypeId):Nat:=((P.info? t).map (·.bytes)).getD 0
def vk (P:Program) (t:TypeId) (l c:V) (dst tk:Nat):Option Eff :=
 match bO P t,l,c with
 | some e,.d (.int _ n),.d (.int _ m) =>
  match szT P e,zeroCells P e with
  | some size,some z =>
   if n=0/\n<=m/\m*iw P e<=2 ^ 48/\m<=2 ^ 48/\z.length=size/\0<size then some ⟨[],[((dst,tk),some (.vec size []))],.vs (dst,tk) size 0 0⟩
   else if 0<=n/\n=m/\n*iw P e<=2 ^ 48/\n<=2 ^ 48/\z.length=size/\0<size/\z.all kw=true then
    match Gw z with
    | some ds=>some ⟨[],[((dst,tk),some (.vec size (List.replicate n.toNat ds)))],.vs (dst,tk) size 0 n.toNat⟩
    | Option.none=>if size=1 then some ⟨[],[((dst,tk),some (.cells 1 (List.replicate n.toNat (z.headD .any))))],.vs (dst,tk) 1 0 n.toNat⟩else Option.none
   else Option.none
  | _,_=>Option.none
 | _,_,_=>Option.none
def q9 (S:Store) (size:Nat) (y:V):Option (List (List D)×List (Nm×Box)) :=
 match y with
 | .d (.sl ys)=>if ys.all (λx=>Nat.beq x.length size)=true then some (ys,[])else Option.none
 | .nil=>some ([],[])
 | .vs n sz k len=>match S n with
  | some (.vec h xs)=>if sz=size/\k+len<=xs.length then some ((xs.drop k).take len,[(n,.vec h xs)])else Option.none
  | some (.froz h xs)=>if sz=size/\k+len<=xs.length then some ((xs.drop k).take len,[(n,.froz h xs)])else Option.none
  | _=>Option.none
 | _=>Option.none
def mX (S:Store) (size:Nat) (y:V):Option (List (List D)×List (Nm×Box)) :=
 match y with
 | .d (.str s)=>if size=1 then some (s.data.toList.map (λb=>[D.int .u8 b.toNat]),[])else Option.none
 | y=>q9 S size y
def Ou (P:Program) (t:TypeId):Option Unit:=match P.underlying t with
 | some (.slice _) | some .string=>some ()
 | _=>Option.none
def lW (P:Program) (t t':TypeId) (S:Store) (x y:V) (dst tk:Nat):Option Eff :=
 match bO P t,Ou P t' with
 | some e,some _ =>
  match szT P e,zeroCells P e with
  | some size,some z =>
   if z.length=size/\0<size then
   match mX S size y with
   | some (ys,req) =>
    match x with
    | .nil =>
     if (2*ys.length+192)*iw P e<=2 ^ 48/\ys.length<=2 ^ 48 then
      match ys with
      | []=>some ⟨req,[],.nil⟩
      | _::_=>some ⟨req,[((dst,tk),some (.vec size ys))],.vs (dst,tk) size 0 ys.length⟩
     else Option.none
    | .vs n sz k len =>
     match S n with
     | some (.vec h xs) =>
      if sz=size/\k+len=xs.length/\(2*(len+ys.length)+192)*iw P e<=2 ^ 48/\len+ys.length<=2 ^ 48 then
       match ys with
       | []=>some ⟨(n,.vec h xs)::req,[],.vs n sz k len⟩
       | _::_=>some ⟨(n,.vec h xs)::req,[(n,Option.none),((dst,tk),some (.vec size (xs.drop k++ys)))],.vs (dst,tk) size 0 (len+ys.length)⟩
      else Option.none
     | _=>Option.none
    | _=>Option.none
   | Option.none=>Option.none
   else Option.none
  | _,_=>Option.none
 | _,_=>Option.none
end Go.Eng

/-
  THE ENGINE: how data stand in memory: 'RepD', 'RepV', the store's boxes, and what of them stays where the memory grows.
-/
namespace Go.Eng
set_option linter.unusedSectionVars false
variable [DM]
structure Gh where
  imm:Nat->Nat->Prop
  mu:Nm->Option (Nat×Nat×Nat)
def bsize (w:World) (b:Nat):Nat:=match w.heap[b]? with
  | some (.cells c _ _)=>c.size
  | _=>0
def thawB (w:World) (b:Nat):Prop:=∃arr e,w.heap[b]? = some (.cells arr e (0,0))
theorem GL {w w':World} {b:Nat} (h:w'.heap[b]? = w.heap[b]?) (k:thawB w b):thawB w' b:=by obtain ⟨a,e,x⟩:=k;exact⟨a,e,h.trans x⟩
inductive RepD (I:Nat->Nat->Prop) (w:World):Value->D->Prop
  | int (k:IntKind) (n:Int):RepD I w (.int k n) (.int k n)
  | bool (b:Bool):RepD I w (.bool b) (.bool b)
  | str (s:ByteArray):RepD I w (.string s) (.str s)
  | agg (arr:List Value) (ds:List D) (hl:arr.length=ds.length)
      (h:∀i (h1:i<arr.length) (h2:i<ds.length),RepD I w arr[i] ds[i]):RepD I w (.agg arr.toArray) (.agg ds)
  | sl0 (a:Option Addr) (cap:Nat):RepD I w (.slice a 0 cap) (.sl [])
  | sl (b off cap sz:Nat) (xs:List (List D)) (us:Nat->Nat->Value) (hcap:xs.length<=cap)
      (hsz:∀i (h:i<xs.length),xs[i].length=sz)
      (hI:∀i j,i<xs.length->j<sz->I b (off+i*sz+j))
      (hc:∀i j,i<xs.length->j<sz->w.cell? ⟨b,off+i*sz+j,none⟩=some (us i j))
      (ho:∀i j,i<xs.length->j<sz->(us i j).oneCell'=true)
      (h:∀i j (hi:i<xs.length) (hj:j<xs[i].length),RepD I w (us i j) xs[i][j]) :
      RepD I w (.slice (some ⟨b,off,none⟩) xs.length cap) (.sl xs)
  | ptr (b o:Nat) (cs:List D) (us:Nat->Value) (hI:∀j,j<cs.length->I b (o+j))
      (hc:∀j,j<cs.length->w.cell? ⟨b,o+j,none⟩=some (us j))
      (h:∀j (hj:j<cs.length),RepD I w (us j) cs[j]):RepD I w (.pointer (some ⟨b,o,none⟩)) (.ptr cs)
  | nilp:RepD I w (.pointer none) .nilp
  | nils (a:Option Addr):RepD I w (.slice a 0 0) .nils
  | wild0 (a:Option Addr) (cap sz:Nat):RepD I w (.slice a 0 cap) (.wild sz 0)
  | wild (b off cap sz len m:Nat) (ht:thawB w b) (hm:I b m) (hf:∀o,off<=o->o<off+len*sz->¬I b o) (hb:off+len*sz<=bsize w b):RepD I w (.slice (some ⟨b,off,none⟩) len cap) (.wild sz len)
  | wildp (b off k m:Nat) (ht:thawB w b) (hm:I b m) (hf:∀o,off<=o->o<off+k->¬I b o) (hb:off+k<=bsize w b):RepD I w (.pointer (some ⟨b,off,none⟩)) (.wildp k)
inductive RepV (G:Gh) (w:World):Value->V->Prop
  | d {v:Value} {x:D} (h:RepD G.imm w v x):RepV G w v (.d x)
  | nil (a:Option Addr):RepV G w (.slice a 0 0) .nil
  | nilm:RepV G w (.map none) .nilm
  | nili:RepV G w .nilIface .nili
  | ref {n:Nm} {b o sz:Nat} (i j:Nat) (h:G.mu n=some (b,o,sz)):RepV G w (.pointer (some ⟨b,o+i*sz+j,none⟩)) (.ref n i j)
  | vs0 (n:Nm) (sz k:Nat) (a:Option Addr):RepV G w (.slice a 0 0) (.vs n sz k 0)
  | vs {n:Nm} {b o sz:Nat} (k len cap:Nat) (h:G.mu n=some (b,o,sz)) (hc:len<=cap) (hb:o+(k+cap)*sz<=bsize w b) :
      RepV G w (.slice (some ⟨b,o+k*sz,none⟩) len cap) (.vs n sz k len)
  | fn (f:FuncId) (arr:List Value) (vs:List V) (hl:arr.length=vs.length)
      (h:∀i (h1:i<arr.length) (h2:i<vs.length),RepV G w arr[i] vs[i]):RepV G w (.func (.func f) #[] arr.toArray) (.fn f vs)
  | agg (arr:List Value) (vs:List V) (hl:arr.length=vs.length)
      (h:∀i (h1:i<arr.length) (h2:i<vs.length),RepV G w arr[i] vs[i]):RepV G w (.agg arr.toArray) (.agg vs)
  | tup (arr:List Value) (vs:List V) (hl:arr.length=vs.length)
      (h:∀i (h1:i<arr.length) (h2:i<vs.length),RepV G w arr[i] vs[i]):RepV G w (.tuple arr.toArray) (.tup vs)
  | map {n:Nm} {b o sz:Nat} (h:G.mu n=some (b,o,sz)):RepV G w (.map (some b)) (.map n)
  | none:RepV G w undef .none
  | any (v:Value):RepV G w v .any
def elemAt (w:World) (b:Nat):Option TypeId:=match w.heap[b]? with | some (.cells _ e _)=>some e | _=>none
theorem lm {w:World} {b:Nat} {arr:Array Value} {e:TypeId} {o:_} (h:w.heap[b]? = some (.cells arr e o)):elemAt w b=some e:=by unfold elemAt;rw [h]
theorem Fa {w w':World} {b:Nat} (h:w'.heap[b]? = w.heap[b]?):elemAt w' b=elemAt w b:=by unfold elemAt;rw [h]
structure Ext (G:Gh) (w:World) (G':Gh) (w':World):Prop where
  imm:∀b o,G.imm b o->G'.imm b o
  cell:∀b o,G.imm b o->w'.cell? ⟨b,o,Option.none⟩=w.cell? ⟨b,o,Option.none⟩
  mu:∀n x,G.mu n=some x->G'.mu n=some x
  size:∀b,bsize w b<=bsize w' b
  elem:∀b e,elemAt w b=some e->elemAt w' b=some e
  map:∀b arr clk,(∃o,G.imm b o)->w.heap[b]? = some (.map arr clk)->w'.heap[b]? = some (.map arr clk)
  still:∀b o m,G.imm b m->G'.imm b o->G.imm b o
  thaw:∀b m,G.imm b m->thawB w b->thawB w' b
theorem Ext.refl (G:Gh) (w:World):Ext G w G w:=⟨λ_ _ h=>h,λ_ _ _=>rfl,λ_ _ h=>h,λ_=>Nat.le_refl _,λ_ _ h=>h,λ_ _ _ _ h=>h,λ_ _ _ _ h=>h,λ_ _ _ h=>h⟩
theorem Ext.trans {G G' B:Gh} {w w' w'':World} (h:Ext G w G' w') (k:Ext G' w' B w''):Ext G w B w'' :=
  ⟨λb o x=>k.imm b o (h.imm b o x),λb o x=>(k.cell b o (h.imm b o x)).trans (h.cell b o x),λn x e=>k.mu n x (h.mu n x e),
   λb=>Nat.le_trans (h.size b) (k.size b),λb e x=>k.elem b e (h.elem b e x),λb arr A ⟨o,x⟩ e=>k.map b arr A ⟨o,h.imm b o x⟩ (h.map b arr A ⟨o,x⟩ e),
   λb o m x y=>h.still b o m x (k.still b o m (h.imm b m x) y),λb m x y=>k.thaw b m (h.imm b m x) (h.thaw b m x y)⟩
theorem Ext.sizeI {G G':Gh} {w w':World} (e:Ext G w G' w'):∀b m,G.imm b m->bsize w b<=bsize w' b/\(thawB w b->thawB w' b):=λb m h=>⟨e.size b,e.thaw b m h⟩
theorem RepD.ext {I L:Nat->Nat->Prop} {w w':World} {v:Value} {x:D} (h:RepD I w v x) (hI:∀b o,I b o->L b o)
    (hc:∀b o,I b o->w'.cell? ⟨b,o,Option.none⟩=w.cell? ⟨b,o,Option.none⟩) (hs:∀b o m,I b m->L b o->I b o) (J:∀b m,I b m->bsize w b<=bsize w' b/\(thawB w b->thawB w' b)):RepD L w' v x:=by
  induction h with
  | int k n=>exact .int k n
  | bool b=>exact .bool b
  | str s=>exact .str s
  | agg arr ds hl _ F=>exact .agg arr ds hl F
  | sl0 a cap=>exact .sl0 a cap
  | sl b off cap sz xs us hcap hsz A B ho _ F =>
    exact .sl b off cap sz xs us hcap hsz (λi j hi hj=>hI _ _ (A i j hi hj)) (λi j hi hj=>(hc _ _ (A i j hi hj)).trans (B i j hi hj)) ho F
  | nilp=>exact .nilp
  | ptr b o cs us A B _ F=>exact .ptr b o cs us (λj hj=>hI _ _ (A j hj)) (λj hj=>(hc _ _ (A j hj)).trans (B j hj)) F
  | nils a=>exact .nils a
  | wild0 a cap sz=>exact .wild0 a cap sz
  | wild b off cap sz len m ht hm hf hb=>exact .wild b off cap sz len m ((J b m hm).2 ht) (hI _ _ hm) (λo h1 h2 h=>hf o h1 h2 (hs b o m hm h)) (Nat.le_trans hb (J b m hm).1)
  | wildp b off k m ht hm hf hb=>exact .wildp b off k m ((J b m hm).2 ht) (hI _ _ hm) (λo h1 h2 h=>hf o h1 h2 (hs b o m hm h)) (Nat.le_trans hb (J b m hm).1)
theorem RepV.ext {G G':Gh} {w w':World} {v:Value} {x:V} (h:RepV G w v x) (e:Ext G w G' w'):RepV G' w' v x:=by
  induction h with
  | d h=>exact .d (h.ext e.imm e.cell e.still e.sizeI)
  | nil a=>exact .nil a
  | nilm=>exact .nilm
  | nili=>exact .nili
  | ref i j h=>exact .ref i j (e.mu _ _ h)
  | vs0 n sz k a=>exact .vs0 n sz k a
  | vs k len cap h hc hb=>exact .vs k len cap (e.mu _ _ h) hc (Nat.le_trans hb (e.size _))
  | fn f arr vs hl _ o=>exact .fn f arr vs hl o
  | agg arr vs hl _ o=>exact .agg arr vs hl o
  | tup arr vs hl _ o=>exact .tup arr vs hl o
  | map h=>exact .map (e.mu _ _ h)
  | none=>exact .none
  | any v=>exact .any v
def Box.all:Box->List V
  | .vec _ xs | .froz _ xs=>(xs.map λx=>x.map V.d).flatten
  | .cells _ cs=>cs
  | _=>[]
def Box.sz:Box->Nat
  | .vec sz _ | .froz sz _ | .cells sz _=>sz
  | _=>0
def Box.row:Box->Bool
  | .vec _ _ | .froz _ _ | .cells _ _=>true
  | _=>false
def Box.even:Box->Prop
  | .vec sz xs | .froz sz xs=>∀x∈xs,x.length=sz
  | _=>True
def Box.mut:Box->Bool
  | .froz _ _=>false
  | _=>true
def bldB (w:World) (t b:Nat):Prop:=∃p v,w.heap[b]? = some (.cells #[p,v] t (0,0))/\(p = .pointer none\/p = .pointer (some ⟨b,0,none⟩))/\(v = .slice none 0 0\/∃g n cap,v = .slice (some ⟨g,0,none⟩) n cap/\0<cap/\elemAt w g=some byteK)
def celB (w:World) (bx:Box) (b o:Nat):Prop:=match bx with
  | .cells s _=>(s=1\/1048576<=s->o=0)/\(1048576<=s->bldB w (s-1048576) b)
  | _=>True
def celK (bx bx':Box) (off:Nat):Prop:=match bx' with
  | .cells s _=>(∃h,bx = .cells s h)/\s<1048576
  | _=>True
theorem celB.ext {w w':World} {bx:Box} {b o:Nat} (h:celB w bx b o) (hb:bx.mut=true->w'.heap[b]? = w.heap[b]?) (F:∀b e,elemAt w b=some e->elemAt w' b=some e):celB w' bx b o:=by
  cases bx with
  | cells s cs =>
    refine⟨h.1,λhs => ?_⟩
    obtain ⟨p,v,h1,h2,I⟩:=h.2 hs
    exact⟨p,v,(hb rfl).trans h1,h2,I.imp id fun⟨g,n,cap,J,B,A⟩=>⟨g,n,cap,J,B,F _ _ A⟩⟩
  | _=>exact trivial
structure Stands (G:Gh) (w:World) (bx:Box) (b o sz:Nat):Prop where
  sz:sz=bx.sz
  even:bx.even
  room:o+bx.all.length<=bsize w b
  cell:∀j (h:j<bx.all.length),∃u,w.cell? ⟨b,o+j,none⟩=some u/\u.oneCell'=true/\RepV G w u bx.all[j]
  free:bx.mut=true->(∃arr elem,w.heap[b]? = some (.cells arr elem (0,0)))/\∀o',¬G.imm b o'
  froz:bx.mut=false->∀j,j<bx.all.length->G.imm b (o+j)
  cel:celB w bx b o:=by exact trivial
def Qc (G:Gh) (w:World) (es:List (D×D)) (b:Nat):Prop :=
  (∀o,¬G.imm b o)/\∃arr h,(w.heap[b]? = some (.map arr h)/\MapKept.Stamped arr h)/\arr.size=es.length /\
    ∀i (h1:i<arr.size) (h2:i<es.length),RepD G.imm w arr[i].key es[i].1/\RepD G.imm w arr[i].val es[i].2
def NI (G:Gh) (w:World) (es:List (D×V)) (b:Nat):Prop :=
  (∀o,¬G.imm b o)/\∃arr h,(w.heap[b]? = some (.map arr h)/\MapKept.Stamped arr h)/\arr.size=es.length /\
    ∀i (h1:i<arr.size) (h2:i<es.length),RepD G.imm w arr[i].key es[i].1/\RepV G w arr[i].val es[i].2
def ni (arr:Array MapEntry) (h:Array Nat):List MapEntry:=arr.toList.filter λe => !h.contains e.born
def BO (G:Gh) (w:World) (cur:Option (D×V)) (left:List (D×V)) (b o:Nat):Prop :=
  (o=0/\∀F,¬G.imm b F)/\∃B arr A h,w.heap[b]? = some (.mapIter (some B) A h A)/\(∃o,G.imm B o)/\w.heap[B]? = some (.map arr A)/\MapKept.Stamped arr A /\
    (ni arr h).length=left.length/\(∀i (h1:i<(ni arr h).length) (h2:i<left.length),RepD G.imm w (ni arr h)[i].key left[i].1/\RepV G w (ni arr h)[i].val left[i].2) /\
    ∀x,cur=some x->∃e∈arr.toList,(∃I:Array Nat,h=I.push e.born)/\RepD G.imm w e.key x.1/\RepV G w e.val x.2
def StandsBox (G:Gh) (w:World) (bx:Box) (b o sz:Nat):Prop:=match bx with
  | .map es=>Qc G w es b
  | .pmap es=>NI G w es b
  | .iter cur left=>BO G w cur left b o
  | bx=>Stands G w bx b o sz
def Kn (G:Gh) (w:World):Prop:=∃h:World,Bl h/\∀b o,b<h.heap.size->G.imm b o/\w.cell? ⟨b,o,Option.none⟩=h.cell? ⟨b,o,Option.none⟩
theorem Kn.ext {G G':Gh} {w w':World} (h:Kn G w) (hI:∀b o,G.imm b o->G'.imm b o) (hc:∀b o,G.imm b o->w'.cell? ⟨b,o,Option.none⟩=w.cell? ⟨b,o,Option.none⟩):Kn G' w':=by
  obtain ⟨A,h1,h2⟩:=h
  exact⟨A,h1,λb o hb=>⟨hI _ _ (h2 b o hb).1,(hc _ _ (h2 b o hb).1).trans (h2 b o hb).2⟩⟩
def Wm (G:Gh) (w:World) (b:Nat):Prop:=(∃m,G.imm b m)/\∃o,o<bsize w b/\¬G.imm b o
def Gh.whole (G:Gh):Gh:=⟨λb _=>∃m,G.imm b m,λ_=>none⟩
theorem Sk (G:Gh) (w:World) (b:Nat):¬Wm G.whole w b:=fun⟨⟨_,m,h1⟩,_,_,h2⟩=>h2 ⟨m,h1⟩
def nwD:Nat->D->Bool
  | 0,_=>false
  | n+1,.agg ds=>ds.all (nwD n)
  | n+1,.sl xs=>xs.all λx=>x.all (nwD n)
  | n+1,.ptr cs=>cs.all (nwD n)
  | _+1,.wild _ _=>false
  | _+1,.wildp _=>false
  | _+1,_=>true
theorem RepD.whole {I:Nat->Nat->Prop} {w w':World} {v:Value} {x:D} (h:RepD I w v x) (hc:∀b o,I b o->w'.cell? ⟨b,o,Option.none⟩=w.cell? ⟨b,o,Option.none⟩):∀n,nwD n x=true->RepD (λb _=>∃m,I b m) w' v x:=by
  induction h with
  | int k n=>exact λ_ _ => .int k n
  | bool b=>exact λ_ _ => .bool b
  | str s=>exact λ_ _ => .str s
  | agg arr ds hl _ J =>
    intro n A
    cases n with
    | zero=>cases A
    | succ n =>
      simp only [nwD,List.all_eq_true]at A
      exact .agg arr ds hl (λi h1 h2=>J i h1 h2 n (A _ (List.getElem_mem h2)))
  | sl0 a cap=>exact λ_ _ => .sl0 a cap
  | sl b off cap sz xs us hcap hsz B F ho _ J =>
    intro n A
    cases n with
    | zero=>cases A
    | succ n =>
      simp only [nwD,List.all_eq_true]at A
      exact .sl b off cap sz xs us hcap hsz (λi j hi hj=>⟨_,B i j hi hj⟩) (λi j hi hj=>(hc _ _ (B i j hi hj)).trans (F i j hi hj)) ho (λi j hi hj=>J i j hi hj n (A _ (List.getElem_mem hi) _ (List.getElem_mem hj)))
  | nilp=>exact λ_ _ => .nilp
  | ptr b o cs us B F _ J =>
    intro n A
    cases n with
    | zero=>cases A
    | succ n =>
      simp only [nwD,List.all_eq_true]at A
      exact .ptr b o cs us (λj hj=>⟨_,B j hj⟩) (λj hj=>(hc _ _ (B j hj)).trans (F j hj)) (λj hj=>J j hj n (A _ (List.getElem_mem hj)))
  | nils a=>exact λ_ _ => .nils a
  | wild0 a cap sz=>intro n A;cases n <;> cases A
  | wild b off cap sz len m ht hm hf hb=>intro n A;cases n <;> cases A
  | wildp b off k m ht hm hf hb=>intro n A;cases n <;> cases A
structure Env where
  G:Gh
  w:World
  M:Nat->Prop
structure Inv (E:Env) (G:Gh) (w:World) (S:Store) (tk:Nat) (U:Nat->Prop):Prop where
  ext:Ext E.G E.w G w
  newI:∀b o,G.imm b o->E.G.imm b o\/E.w.heap.size<=b\/E.M b
  frame:∀b,b<E.w.heap.size->¬E.M b->¬Wm E.G E.w b->w.heap[b]? = E.w.heap[b]?
  size:E.w.heap.size<=w.heap.size
  os:w.os=E.w.os
  tape:w.tape=E.w.tape
  output:w.output=E.w.output
  box:∀n bx,S n=some bx->∃b o sz,G.mu n=some (b,o,sz)/\StandsBox G w bx b o sz/\(bx.mut=true->E.w.heap.size<=b\/E.M b)
  one:∀n m bx by' b o sz o' sz',S n=some bx->S m=some by'->bx.mut=true->G.mu n=some (b,o,sz)->G.mu m=some (b,o',sz')->n=m
  tick:∀n x,G.mu n=some x->n.2<tk\/(n.2=tk/\U n.1)
  bound:∀n b o sz,G.mu n=some (b,o,sz)->b<w.heap.size
  immB:∀b o,G.imm b o->b<w.heap.size
  kn:Kn E.G E.w
  dr:dmK=true->E.w.drawn<=w.drawn
end Go.Eng

/-
  THE ENGINE: the steps of memory: a new row that is never written, a new box, a box that is written, frozen.
-/
namespace Go.Eng
set_option linter.unusedSectionVars false
variable [DM]
theorem yn {w w':World} {b:Nat} (h:w'.heap[b]? = w.heap[b]?) (o:Nat):w'.cell? ⟨b,o,none⟩=w.cell? ⟨b,o,none⟩:=by
  simp [World.cell?,h]
theorem yI {w w':World} {b:Nat} (h:w'.heap[b]? = w.heap[b]?):bsize w' b=bsize w b:=by
  simp [bsize,h]
theorem alloc_old (w:World) (o:Obj) {b:Nat} (h:b<w.heap.size):(w.alloc o).heap[b]? = w.heap[b]? := by
  simp only [World.alloc,Array.getElem?_push];rw [if_neg (by omega)]
theorem jX (w:World) (o:Obj):(w.alloc o).heap[w.heap.size]? = some o:=by
  show (w.heap.push o)[w.heap.size]? = some o
  simp
theorem Jo (w:World) {b:Nat} (h:w.heap.size<=b):w.heap[b]? = none:=by simp [h]
theorem QF (w:World) {b:Nat} (h:w.heap.size<=b):bsize w b=0:=by simp [bsize,Jo w h]
theorem BX {G G':Gh} {w w':World} (hi:∀b o,G.imm b o->G'.imm b o) (hb:∀b o,G.imm b o->b<w.heap.size)
    (hm:∀n x,G.mu n=some x->G'.mu n=some x) (A:∀b,b<w.heap.size->(w'.heap[b]? = w.heap[b]? \/ ((∀o,¬G.imm b o)/\bsize w b<=bsize w' b/\∀e,elemAt w b=some e->elemAt w' b=some e))) (hs:∀b o m,G.imm b m->G'.imm b o->G.imm b o:=by intro b o m h k;exact k) :
    Ext G w G' w' where
  still:=hs
  thaw b m hm ht:=by
    rcases A b (hb b m hm)with e|e
    · exact GL e ht
    · exact absurd hm (e.1 m)
  imm:=hi
  cell b o h:=by
    rcases A b (hb b o h)with e|e
    · exact yn e o
    · exact absurd h (e.1 o)
  mu:=hm
  size b:=by
    rcases Nat.lt_or_ge b w.heap.size with h|h
    · rcases A b h with e | e
      · rw [yI e];exact Nat.le_refl _
      · exact e.2.1
    · rw [QF w h];exact Nat.zero_le _
  elem b e he:=by
    rcases Nat.lt_or_ge b w.heap.size with h|h
    · rcases A b h with k | k
      · rw [Fa k];exact he
      · exact k.2.2 e he
    · unfold elemAt at he;rw [Jo w h]at he;cases he
  map b arr clk:=fun⟨o,h⟩ e=>by
    rcases A b (hb b o h)with k|k
    · rw [k];exact e
    · exact absurd h (k.1 o)
theorem Stands.ext {G G':Gh} {w w':World} {bx:Box} {b o sz:Nat} (h:Stands G w bx b o sz) (e:Ext G w G' w')
    (hb:bx.mut=true->w'.heap[b]? = w.heap[b]?) (J:bx.mut=true->∀A,G'.imm b A->G.imm b A):Stands G' w' bx b o sz where
  sz:=h.sz
  even:=h.even
  room:=Nat.le_trans h.room (e.size b)
  cell j hj:=by
    obtain ⟨u,F,h1,I⟩:=h.cell j hj
    cases hm:bx.mut with
    | true=>exact⟨u,by rw [yn (hb hm)];exact F,h1,I.ext e⟩
    | false=>exact⟨u,by rw [e.cell b (o+j) (h.froz hm j hj)];exact F,h1,I.ext e⟩
  free hm:=by
    obtain ⟨⟨arr,elem,L⟩,hf⟩:=h.free hm
    exact⟨⟨arr,elem,by rw [hb hm];exact L⟩,λA B=>hf A (J hm A B)⟩
  froz hm j hj:=e.imm _ _ (h.froz hm j hj)
  cel:=h.cel.ext hb e.elem
theorem StandsBox.noimm {G:Gh} {w:World} {bx:Box} {b o sz:Nat} (h:StandsBox G w bx b o sz) (hm:bx.mut=true):∀B,¬G.imm b B:=by
  cases bx with
  | map es=>exact h.1
  | pmap es=>exact h.1
  | iter cur left=>exact h.1.2
  | vec A xs=>exact (Stands.free h hm).2
  | froz A xs=>exact (Stands.free h hm).2
  | cells A cs=>exact (Stands.free h hm).2
theorem StandsBox.ext {G G':Gh} {w w':World} {bx:Box} {b o sz:Nat} (h:StandsBox G w bx b o sz) (e:Ext G w G' w')
    (hb:bx.mut=true->w'.heap[b]? = w.heap[b]?) (I:bx.mut=true->∀F,G'.imm b F->G.imm b F):StandsBox G' w' bx b o sz:=by
  cases bx with
  | map es =>
    obtain ⟨J,arr,A,h1,h2,O⟩:=h
    refine⟨λF B=>J F (I rfl F B),arr,A,⟨by rw [hb rfl];exact h1.1,h1.2⟩,h2,λi a c => ?_⟩
    obtain ⟨N,L⟩:=O i a c
    exact⟨N.ext e.imm e.cell e.still e.sizeI,L.ext e.imm e.cell e.still e.sizeI⟩
  | pmap es =>
    obtain ⟨J,arr,A,h1,h2,O⟩:=h
    refine⟨λF B=>J F (I rfl F B),arr,A,⟨by rw [hb rfl];exact h1.1,h1.2⟩,h2,λi a c => ?_⟩
    obtain ⟨N,L⟩:=O i a c
    exact⟨N.ext e.imm e.cell e.still e.sizeI,L.ext e⟩
  | iter cur left =>
    obtain ⟨J,Y,arr,A,M,h1,⟨R,hi⟩,h2,O,N,L,h6⟩:=h
    refine⟨⟨J.1,λF B=>J.2 F (I rfl F B)⟩,Y,arr,A,M,by rw [hb rfl];exact h1,⟨R,e.imm _ _ hi⟩,e.map _ _ _ ⟨R,hi⟩ h2,O,N,λi a c => ?_,λx hx => ?_⟩
    · exact⟨(L i a c).1.ext e.imm e.cell e.still e.sizeI,(L i a c).2.ext e⟩
    · obtain ⟨Z,k1,X,W,k4⟩:=h6 x hx
      exact⟨Z,k1,X,W.ext e.imm e.cell e.still e.sizeI,k4.ext e⟩
  | vec sz xs=>exact Stands.ext h e hb I
  | froz sz xs=>exact Stands.ext h e hb I
  | cells sz xs=>exact Stands.ext h e hb I
theorem Inv.more {E:Env} {G G':Gh} {w w':World} {S:Store} {tk:Nat} {U U':Nat->Prop} (h:Inv E G w S tk U)
    (O:∀b,b<w.heap.size->w'.heap[b]? = w.heap[b]?) (hs:w.heap.size<=w'.heap.size)
    (N:w'.os=w.os) (ht:w'.tape=w.tape) (ho:w'.output=w.output)
    (hi:∀b o,G.imm b o->G'.imm b o) (B:∀b o,G'.imm b o->G.imm b o\/(w.heap.size<=b/\b<w'.heap.size)) (hm:G'.mu=G.mu) (X:∀n,U n->U' n) (F:dmK=true->w.drawn<=w'.drawn:=by intro _;first | exact Nat.le_refl _ | (simp;done) | (simp;omega)) :
    Inv E G' w' S tk U'/\Ext G w G' w':=by
  have e:Ext G w G' w':=BX hi h.immB (λn x A=>by rw [hm];exact A) (λb hb => .inl (O b hb)) (λb o m h1 h2=>(B b o h2).resolve_right (by have:=h.immB b m h1;omega))
  refine⟨⟨h.ext.trans e,?_,?_,Nat.le_trans h.size hs,N.trans h.os,ht.trans h.tape,ho.trans h.output,?_,?_,?_,?_,?_,h.kn,λk=>Nat.le_trans (h.dr k) (F k)⟩,e⟩
  · intro b o hb
    rcases B b o hb with hb|hb
    · exact h.newI b o hb
    · exact .inr (.inl (Nat.le_trans h.size hb.1))
  · intro b hb W Z
    rw [O b (Nat.lt_of_lt_of_le hb h.size)];exact h.frame b hb W Z
  · intro n bx I
    obtain ⟨b,o,sz,h1,h2,h3⟩:=h.box n bx I
    have hb:=h.bound n b o sz h1
    exact⟨b,o,sz,by rw [hm];exact h1,h2.ext e (λ_=>O b hb) (λ_ M J=>(B b M J).resolve_right (by omega)),h3⟩
  · intro n m bx R b o sz M L Y a2 a3 a4 a5
    rw [hm]at a4 a5
    exact h.one n m bx R b o sz M L Y a2 a3 a4 a5
  · intro n x A
    rw [hm]at A
    exact (h.tick n x A).imp id (fun⟨a,c⟩=>⟨a,X _ c⟩)
  · intro n b o sz A
    rw [hm]at A
    exact Nat.lt_of_lt_of_le (h.bound n b o sz A) hs
  · intro b o hb
    rcases B b o hb with hb|hb
    · exact Nat.lt_of_lt_of_le (h.immB b o hb) hs
    · exact hb.2
theorem Inv.allocImm {E:Env} {G:Gh} {w:World} {S:Store} {tk:Nat} {U U':Nat->Prop} (h:Inv E G w S tk U) (arr:Array Value) (elem:TypeId) (A:∀n,U n->U' n) :
    Inv E ⟨λb o=>G.imm b o\/(b=w.heap.size/\o<arr.size),G.mu⟩ (w.alloc (.cells arr elem)) S tk U' /\
    Ext G w ⟨λb o=>G.imm b o\/(b=w.heap.size/\o<arr.size),G.mu⟩ (w.alloc (.cells arr elem)) :=
  h.more (λ_ hb=>alloc_old w _ hb) (by simp) rfl rfl rfl (λ_ _ h => .inl h)
    (λb o hb=>hb.imp id (fun⟨e,_⟩=>by subst e;exact⟨Nat.le_refl _,by simp⟩)) rfl A
theorem Inv.allocBox {E:Env} {G:Gh} {w:World} {S:Store} {tk:Nat} {U:Nat->Prop} (h:Inv E G w S tk U) (dst:Nat) (hd:¬U dst)
    (o:Obj) (bx:Box)
    (hst:∀G',(∀b o,G'.imm b o↔G.imm b o)->Ext G w G' (w.alloc o)->StandsBox G' (w.alloc o) bx w.heap.size 0 bx.sz) :
    Inv E ⟨G.imm,λm=>if m=(dst,tk)then some (w.heap.size,0,bx.sz)else G.mu m⟩ (w.alloc o) (supd S (dst,tk) (some bx)) tk (λu=>U u\/u=dst) /\
    Ext G w ⟨G.imm,λm=>if m=(dst,tk)then some (w.heap.size,0,bx.sz)else G.mu m⟩ (w.alloc o):=by
  have hnew:G.mu (dst,tk)=none:=by
    cases hx:G.mu (dst,tk)with
    | none=>rfl
    | some x => rcases h.tick _ _ hx with h1 | ⟨_, h1⟩
                · exact absurd h1 (Nat.lt_irrefl _)
                · exact absurd h1 hd
  have e:Ext G w ⟨G.imm,λm=>if m=(dst,tk)then some (w.heap.size,0,bx.sz)else G.mu m⟩ (w.alloc o) :=
    BX (λ_ _ h=>h) h.immB (λn x hx=>by
      show (if n=(dst,tk)then _ else G.mu n)=_
      rw [if_neg (λe=>by rw [e,hnew]at hx;cases hx)];exact hx) (λb hb => .inl (alloc_old w _ hb))
  refine⟨⟨h.ext.trans e,h.newI,?_,Nat.le_trans h.size (by simp),h.os,h.tape,h.output,?_,?_,?_,?_,?_,h.kn,h.dr⟩,e⟩
  · intro b hb hM hW
    rw [alloc_old w _ (Nat.lt_of_lt_of_le hb h.size)];exact h.frame b hb hM hW
  · intro n by' hby
    by_cases hn:n=(dst,tk)
    · subst hn
      simp only [supd,if_true,so_]at hby
      subst hby
      exact⟨w.heap.size,0,bx.sz,by simp,hst _ (λ_ _=>Iff.rfl) e,λ_ => .inl h.size⟩
    · simp only [supd,hn,if_false]at hby
      obtain ⟨b,o',sz,h1,h2,h3⟩:=h.box n by' hby
      have hb:=h.bound n b o' sz h1
      exact⟨b,o',sz,by simp [hn,h1],h2.ext e (λ_=>alloc_old w _ hb) (λ_ _ h=>h),h3⟩
  · intro n m bx1 by1 b o1 sz1 o2 sz2 a1 a2 a3 a4 a5
    simp only at a4 a5
    by_cases hn:n=(dst,tk)
    · by_cases hm:m=(dst,tk)
      · rw [hn,hm]
      · simp only [hn,if_true,so_,Prod.mk.injEq]at a4
        simp only [hm,if_false]at a5
        have:=h.bound _ _ _ _ a5
        omega
    · by_cases hm:m=(dst,tk)
      · simp only [hm,if_true,so_,Prod.mk.injEq]at a5
        simp only [hn,if_false]at a4
        have:=h.bound _ _ _ _ a4
        omega
      · simp only [hn,hm,if_false]at a4 a5
        simp only [supd,hn,hm,if_false]at a1 a2
        exact h.one n m bx1 by1 b o1 sz1 o2 sz2 a1 a2 a3 a4 a5
  · intro n x hx
    simp only at hx
    by_cases hn:n=(dst,tk)
    · subst hn;exact .inr ⟨rfl,.inr rfl⟩
    · simp only [hn,if_false]at hx
      exact (h.tick n x hx).imp id (fun⟨a,c⟩=>⟨a,.inl c⟩)
  · intro n b o1 sz1 hx
    simp only at hx
    by_cases hn:n=(dst,tk)
    · simp only [hn,if_true,so_,Prod.mk.injEq]at hx
      simp;omega
    · simp only [hn,if_false]at hx
      have:=h.bound n b o1 sz1 hx
      simp;omega
  · intro b o1 hb
    have:=h.immB b o1 hb
    simp;omega
theorem Inv.write {E:Env} {G:Gh} {w w':World} {S:Store} {tk:Nat} {U:Nat->Prop} (h:Inv E G w S tk U) {n:Nm} {bx:Box} {b o sz:Nat}
    (W:S n=some bx) (B:bx.mut=true) (O:G.mu n=some (b,o,sz))
    (hh:∀b',b'≠b->w'.heap[b']? = w.heap[b']?) (hsz:w'.heap.size=w.heap.size) (hbs:bsize w b<=bsize w' b) (hel:∀e,elemAt w b=some e->elemAt w' b=some e) (J:∀N,¬G.imm b N)
    (hos:w'.os=w.os) (ht:w'.tape=w.tape) (ho:w'.output=w.output)
    (bx':Box) (X:Ext G w G w'->StandsBox G w' bx' b o sz) (R:dmK=true->w.drawn<=w'.drawn:=by intro _;first | exact Nat.le_refl _ | (simp;done) | (simp;omega)) :
    Inv E G w' (supd S n (some bx')) tk U/\Ext G w G w':=by
  have e:Ext G w G w':=BX (λ_ _ h=>h) h.immB (λ_ _ h=>h) (λb' _=>by
    by_cases hb:b'=b
    · subst hb;exact .inr ⟨J,hbs,hel⟩
    · exact .inl (hh b' hb))
  obtain ⟨b₁,o₁,sz₁,k1,k2,k3⟩:=h.box n bx W
  rw [O]at k1
  simp only [so_,Prod.mk.injEq]at k1
  obtain ⟨rfl,rfl,rfl⟩:=k1
  refine⟨⟨h.ext.trans e,h.newI,?_,by rw [hsz];exact h.size,hos.trans h.os,ht.trans h.tape,ho.trans h.output,?_,?_,h.tick,?_,?_,h.kn,λk=>Nat.le_trans (h.dr k) (R k)⟩,e⟩
  · intro b' hb hM hW
    rw [hh b' (λL=>by subst L;rcases k3 B with h1 | h1;exact absurd hb (by omega);exact hM h1)]
    exact h.frame b' hb hM hW
  · intro m A F
    by_cases hm:m=n
    · subst hm
      simp only [supd,if_true,so_]at F
      subst F
      exact⟨b,o,sz,O,X e,λ_=>k3 B⟩
    · simp only [supd,hm,if_false]at F
      obtain ⟨b',N,I,h1,h2,h3⟩:=h.box m A F
      have hne:b'≠b:=λL=>by subst L;exact hm (h.one n m bx A b' o sz N I W F B O h1).symm
      exact⟨b',N,I,h1,h2.ext e (λ_=>hh b' hne) (λ_ _ h=>h),h3⟩
  · intro n1 m1 bx1 by1 b1 o1 Z o2 sz2 a1 a2 a3 a4 a5
    have get:∀{m A},supd S n (some bx') m=some A->∃M,S m=some M/\(A.mut=true->M.mut=true):=by
      intro m A L
      by_cases hm:m=n
      · subst hm;exact⟨bx,W,λ_=>B⟩
      · simp only [supd,hm,if_false]at L;exact⟨A,L,id⟩
    obtain ⟨Y,c1,c2⟩:=get a1
    obtain ⟨by2,c3,_⟩:=get a2
    exact h.one n1 m1 Y by2 b1 o1 Z o2 sz2 c1 c3 (c2 a3) a4 a5
  · intro m b' N I L;rw [hsz];exact h.bound m b' N I L
  · intro b' N hb;rw [hsz];exact h.immB b' N hb
theorem Inv.freeze {E:Env} {G:Gh} {w:World} {S:Store} {tk:Nat} {U:Nat->Prop} (h:Inv E G w S tk U) {n:Nm} {sz:Nat} {xs:List (List D)} {b o:Nat}
    (O:S n=some (.vec sz xs)) (L:G.mu n=some (b,o,sz)) :
    Inv E ⟨λb' B=>G.imm b' B\/b'=b,G.mu⟩ w (supd S n (some (.froz sz xs))) tk U /\
    Ext G w ⟨λb' B=>G.imm b' B\/b'=b,G.mu⟩ w:=by
  obtain ⟨b₁,o₁,sz₁,k1,k2,k3⟩:=h.box n _ O
  rw [L]at k1
  simp only [so_,Prod.mk.injEq]at k1
  obtain ⟨rfl,rfl,rfl⟩:=k1
  have I:Stands G w (.vec sz xs) b o sz:=k2
  have e:Ext G w ⟨λb' B=>G.imm b' B\/b'=b,G.mu⟩ w :=
    BX (λ_ _ h => .inl h) h.immB (λ_ _ h=>h) (λ_ _ => .inl rfl) (λb' B m h1 h2=>h2.resolve_right (λh3=>(I.free rfl).2 m (h3 ▸ h1)))
  refine⟨⟨h.ext.trans e,?_,h.frame,h.size,h.os,h.tape,h.output,?_,?_,h.tick,h.bound,?_,h.kn,h.dr⟩,e⟩
  · intro b' B hb
    rcases hb with hb|rfl
    · exact h.newI b' B hb
    · exact .inr (k3 rfl)
  · intro m A F
    by_cases hm:m=n
    · subst hm
      simp only [supd,if_true,so_]at F
      subst F
      refine⟨b,o,sz,L,?_,λJ=>by cases J⟩
      exact { sz := I.sz, even := I.even, room := I.room, cell := fun j hj => by
                obtain ⟨u,hu,h1,hr⟩:=I.cell j hj
                exact⟨u,hu,h1,hr.ext e⟩
              free:=λJ=>(by cases J),froz:=λ_ j hj => .inr rfl }
    · simp only [supd,hm,if_false]at F
      obtain ⟨b',B,N,h1,h2,h3⟩:=h.box m A F
      have X:b'≠b:=λJ=>by subst J;exact hm (h.one n m _ A b' o sz B N O F rfl L h1).symm
      exact⟨b',B,N,h1,h2.ext e (λ_=>rfl) (λ_ o'' J=>J.resolve_right (λhy=>X hy)),h3⟩
  · intro n1 m1 bx1 by1 b1 o1 W o2 Y a1 a2 a3 a4 a5
    have get:∀{m A},supd S n (some (.froz sz xs)) m=some A->∃M,S m=some M/\(A.mut=true->M.mut=true):=by
      intro m A J
      by_cases hm:m=n
      · subst hm;exact⟨_,O,λ_=>rfl⟩
      · simp only [supd,hm,if_false]at J;exact⟨A,J,id⟩
    obtain ⟨R,c1,c2⟩:=get a1
    obtain ⟨Z,c3,_⟩:=get a2
    exact h.one n1 m1 R Z b1 o1 W o2 Y c1 c3 (c2 a3) a4 a5
  · intro b' B hb
    rcases hb with hb|rfl
    · exact h.immB b' B hb
    · exact h.bound n b' o sz L
theorem Inv.wild {E:Env} {G:Gh} {w:World} {S:Store} {tk:Nat} {U:Nat->Prop} (h:Inv E G w S tk U) {n:Nm} {sz:Nat} {xs:List (List D)} {b o:Nat}
    (hS:S n=some (.vec sz xs)) (J:G.mu n=some (b,o,sz)) :
    Inv E ⟨λb' A=>G.imm b' A\/(b'=b/\A=bsize w b),G.mu⟩ w (supd S n none) tk U /\
    Ext G w ⟨λb' A=>G.imm b' A\/(b'=b/\A=bsize w b),G.mu⟩ w:=by
  obtain ⟨b₁,o₁,sz₁,Z,k2,k3⟩:=h.box n _ hS
  rw [J]at Z
  simp only [so_,Prod.mk.injEq]at Z
  obtain ⟨rfl,rfl,rfl⟩:=Z
  have M:Stands G w (.vec sz xs) b o sz:=k2
  have e:Ext G w ⟨λb' A=>G.imm b' A\/(b'=b/\A=bsize w b),G.mu⟩ w :=
    BX (λ_ _ h => .inl h) h.immB (λ_ _ h=>h) (λ_ _ => .inl rfl) (λb' A m h1 h2=>h2.resolve_right (λY=>(M.free rfl).2 m (Y.1 ▸ h1)))
  have get:∀{m B},supd S n none m=some B->m≠n/\S m=some B:=by
    intro m B I
    by_cases hm:m=n
    · simp only [supd,hm,if_true]at I;cases I
    · simp only [supd,hm,if_false]at I;exact⟨hm,I⟩
  refine⟨⟨h.ext.trans e,?_,h.frame,h.size,h.os,h.tape,h.output,?_,?_,h.tick,h.bound,?_,h.kn,h.dr⟩,e⟩
  · intro b' A hb
    rcases hb with hb|⟨rfl,_⟩
    · exact h.newI b' A hb
    · exact .inr (k3 rfl)
  · intro m B F
    obtain ⟨hm,F⟩:=get F
    obtain ⟨b',A,L,h1,h2,Y⟩:=h.box m B F
    have W:b'≠b:=λI=>by subst I;exact hm (h.one n m _ B b' o sz A L hS F rfl J h1).symm
    exact⟨b',A,L,h1,h2.ext e (λ_=>rfl) (λ_ o'' I=>I.resolve_right (λhy=>W hy.1)),Y⟩
  · intro n1 m1 N R b1 o1 O o2 X a1 a2 a3 a4 a5
    exact h.one n1 m1 N R b1 o1 O o2 X (get a1).2 (get a2).2 a3 a4 a5
  · intro b' A hb
    rcases hb with hb|⟨rfl,_⟩
    · exact h.immB b' A hb
    · exact h.bound n b' o sz J
theorem Lr {E:Env} {G:Gh} {w:World} {S:Store} {tk:Nat} {U:Nat->Prop} (h:Inv E G w S tk U) {n:Nm} {sz k len:Nat} {xs:List (List D)} {v:Value}
    (J:S n=some (.vec sz xs)) (W:RepV G w v (.vs n sz k len)) :
    ∃G',Inv E G' w (supd S n none) tk U/\Ext G w G' w/\RepD G'.imm w v (.wild sz len):=by
  obtain ⟨b,o,A,L,M,X⟩:=h.box n _ J
  have B:Stands G w (.vec sz xs) b o A:=M
  obtain rfl:A=sz:=B.sz
  obtain ⟨i,e⟩:=h.wild J L
  refine⟨_,i,e,?_⟩
  cases W with
  | vs0=>exact .wild0 _ _ _
  | vs _ _ cap hm hc hb =>
    rw [L]at hm
    simp only [so_,Prod.mk.injEq]at hm
    obtain ⟨rfl,rfl,_⟩:=hm
    have I:o+k*A+len*A<=bsize w b:=by
      have h1:(k+len)*A<=(k+cap)*A:=Nat.mul_le_mul_right _ (Nat.add_le_add_left hc k)
      rw [Nat.add_mul]at h1
      omega
    obtain ⟨arr,N,O⟩:=(B.free rfl).1
    refine .wild b (o+k*A) cap A len (bsize w b) ⟨arr,N,O⟩ (.inr ⟨rfl,rfl⟩) (λR h1 h2 F => ?_) I
    rcases F with F|⟨_,F⟩
    · exact (B.free rfl).2 R F
    · omega
end Go.Eng

/-
  THE ENGINE: what a load reads.
-/
namespace Go.Eng
set_option linter.unusedSectionVars false
variable [DM]
variable {P:Program}
theorem xE {t:TypeId} {s:Nat} (h:szT P t=some s):∃i d,P.info? t=some i/\i.size=s/\P.underlying t=some d:=by
 unfold szT at h
 split at h
 ·rename_i i d h1 h2
  simp only [so_]at h
  exact⟨i,d,h1,h,h2⟩
 ·cases h
theorem run_sizeOf {t:TypeId} {s:Nat} (h:szT P t=some s) (w:World):(sizeOf t).run P w = .ok s w:=by
 obtain ⟨i,d,h1,h2,_⟩:=xE h
 simp [sizeOf,typeInfo,h1,h2]
theorem bn {t:TypeId} {d:TypeDesc} (h:P.underlying t=some d) (w:World):(underlying t).run P w = .ok d w:=by
 simp [underlying,h]
theorem DW {t:TypeId} {s:Nat} (h:szT P t=some s) (w:World):(isAgg t).run P w = .ok (bW P t) w:=by
 obtain ⟨i,d,_,_,o⟩:=xE h
 unfold isAgg bW
 simp only [Sem.run_bind,bn o,Result.andThen_ok,o]
 cases d <;> rfl
theorem addr_add (b o n:Nat):(⟨b,o,none⟩:Addr).add n=⟨b,o+n,none⟩:=by
 unfold Addr.add;split <;> simp_all
theorem zk {t:TypeId} {s:Nat} (h:szT P t=some s) (B:bW P t=true) (w:World) (b o:Nat) (us:List Value) (hl:us.length=s)
  (hc:∀j (hj:j<us.length),w.cell? ⟨b,o+j,none⟩=some us[j]):(loadVar t ⟨b,o,none⟩).run P w = .ok (.agg us.toArray) w:=by
 have h1:=run_loadCells_list (P:=P) w ⟨b,o,none⟩ us (λj v A=>by
  obtain ⟨hj,e⟩:=List.getElem?_eq_some_iff.1 A
  rw [addr_add,hc j hj,e])
 subst hl
 simp only [loadVar,Sem.run_bind,DW h,Result.andThen_ok,B,if_true,run_sizeOf h,h1,Sem.run_pure]
theorem zm {t:TypeId} {s:Nat} (h:szT P t=some s) (A:bW P t=false) (w:World) (b o:Nat) (u:Value)
  (hc:w.cell? ⟨b,o,none⟩=some u):(loadVar t ⟨b,o,none⟩).run P w = .ok u w:=by
 simp only [loadVar,Sem.run_bind,DW h,Result.andThen_ok,A,Bool.false_eq_true,if_false,run_load,hc]
theorem pW {α:Type} (f:Nat->α) (n j:Nat) (h:j<((List.range n).map f).length):((List.range n).map f)[j]=f j:=by simp
theorem RepD.aggOf {I:Nat->Nat->Prop} {w:World} (us:Nat->Value) (ds:List D) (h:∀j (hj:j<ds.length),RepD I w (us j) ds[j]) :
  RepD I w (.agg ((List.range ds.length).map us).toArray) (.agg ds) :=
 .agg _ ds (by simp) (λi h1 h2=>by rw [pW];exact h i h2)
theorem RepV.aggOf {G:Gh} {w:World} (us:Nat->Value) (vs:List V) (h:∀j (hj:j<vs.length),RepV G w (us j) vs[j]) :
  RepV G w (.agg ((List.range vs.length).map us).toArray) (.agg vs) :=
 .agg _ vs (by simp) (λi h1 h2=>by rw [pW];exact h i h2)
theorem En:∀{vs:List V} {ds:List D},Gw vs=some ds->vs=ds.map .d
 | [],ds,h=>by simp [Gw]at h;subst h;rfl
 | v::vs,ds,h=>by
  cases v with
  | d x =>
   simp only [Gw,Option.map_eq_some_iff]at h
   obtain ⟨o,h1,rfl⟩:=h
   rw [En h1];rfl
  | _=>simp [Gw]at h
theorem RepV.d_inv {G:Gh} {w:World} {v:Value} {x:D} (h:RepV G w v (.d x)):RepD G.imm w v x:=by
 cases h with | d h=>exact h
theorem rZ {G:Gh} {w:World} {arr:List Value} {vs:List V} (hl:arr.length=vs.length)
  (h:∀i (h1:i<arr.length) (h2:i<vs.length),RepV G w arr[i] vs[i]):RepV G w (.agg arr.toArray) (E8 vs):=by
 unfold E8
 split
 ·rename_i ds o
  have:=En o
  subst this
  exact .d (.agg arr ds (by simpa using hl) (λi h1 h2=>by
   have:=h i h1 (by simpa using h2)
   rw [List.getElem_map]at this
   exact this.d_inv))
 ·exact .agg arr vs hl h
theorem Ee {G:Gh} {w:World} {t:TypeId} {size:Nat} (hsz:szT P t=some size) (b o:Nat) (cs:List D) (us:Nat->Value)
  (hc:∀j,j<cs.length->w.cell? ⟨b,o+j,none⟩=some (us j)) (h:∀j (hj:j<cs.length),RepD G.imm w (us j) cs[j]) {v:V}
  (A:rdD (bW P t) size cs=some v):∃u,(loadVar t ⟨b,o,none⟩).run P w = .ok u w/\RepV G w u v:=by
 unfold rdD at A
 cases ha:bW P t with
 | true =>
  simp only [ha,cond_true]at A
  cases hle:Nat.ble size cs.length with
  | false=>simp [hle]at A
  | true =>
   simp only [hle,cond_true,so_]at A
   subst A
   have B:size<=cs.length:=Nat.le_of_ble_eq_true hle
   refine⟨_,zk hsz ha w b o ((List.range size).map us) (by simp) (λj hj => ?_),.d ?_⟩
   ·simp only [List.length_map,List.length_range]at hj
    rw [pW,hc j (by omega)]
   ·have e:size=(cs.take size).length:=by simp;omega
    conv=>arg 3;rw [e]
    exact RepD.aggOf us _ (λj hj=>by
     simp only [List.length_take]at hj
     rw [List.getElem_take];exact h j (by omega))
 | false =>
  simp only [ha,cond_false]at A
  cases cs with
  | nil=>simp at A
  | cons c cs =>
   simp only [so_]at A
   subst A
   have F:=hc 0 (by simp)
   exact⟨us 0,zm hsz ha w b o (us 0) (by simpa using F),.d (h 0 (by simp))⟩
theorem Qf {G:Gh} {w:World} {t:TypeId} {size:Nat} (hsz:szT P t=some size) (b o:Nat) (cs:List V) (us:Nat->Value)
  (hc:∀j,j<cs.length->w.cell? ⟨b,o+j,none⟩=some (us j)) (h:∀j (hj:j<cs.length),RepV G w (us j) cs[j]) {v:V}
  (A:rdV (bW P t) size cs=some v):∃u,(loadVar t ⟨b,o,none⟩).run P w = .ok u w/\RepV G w u v:=by
 unfold rdV at A
 cases ha:bW P t with
 | true =>
  simp only [ha,cond_true]at A
  cases hle:Nat.ble size cs.length with
  | false=>simp [hle]at A
  | true =>
   simp only [hle,cond_true,so_]at A
   subst A
   have B:size<=cs.length:=Nat.le_of_ble_eq_true hle
   refine⟨_,zk hsz ha w b o ((List.range size).map us) (by simp) (λj hj => ?_),rZ (by simp;omega) (λi h1 h2 => ?_)⟩
   ·simp only [List.length_map,List.length_range]at hj
    rw [pW,hc j (by omega)]
   ·rw [pW,List.getElem_take]
    simp at h1
    exact h i (by omega)
 | false =>
  simp only [ha,cond_false]at A
  cases cs with
  | nil=>simp at A
  | cons c cs =>
   simp only [so_]at A
   subst A
   have F:=hc 0 (by simp)
   exact⟨us 0,zm hsz ha w b o (us 0) (by simpa using F),h 0 (by simp)⟩
theorem flat_get {α:Type} (sz:Nat):∀(xs:List (List α)),(∀x∈xs,x.length=sz)->∀(i j:Nat) (hi:i<xs.length) (hj:j<xs[i].length),
  ∃h:i*sz+j<xs.flatten.length,xs.flatten[i*sz+j]=xs[i][j]
 | [],_,i,_,hi,_=>absurd hi (Nat.not_lt_zero i)
 | x::xs,B,0,j,hi,hj=>by
  have o:j<x.length:=hj
  refine⟨by simp;omega,?_⟩
  simp only [List.flatten_cons,Nat.zero_mul,Nat.zero_add]
  rw [List.getElem_append_left o];rfl
 | x::xs,B,i+1,j,hi,hj=>by
  have I:x.length=sz:=B x (by simp)
  have A:i<xs.length:=by simpa using hi
  have o:j<xs[i].length:=by simpa using hj
  obtain ⟨h1,h2⟩:=flat_get sz xs (λy F=>B y (by simp [F])) i j A o
  have e:(i+1)*sz+j=x.length+(i*sz+j):=by rw [Nat.succ_mul];omega
  refine⟨by simp only [List.flatten_cons,List.length_append];omega,?_⟩
  simp only [List.flatten_cons,e]
  rw [List.getElem_append_right (by omega)]
  simp only [Nat.add_sub_cancel_left]
  rw [h2];rfl
theorem tu {α:Type} (sz:Nat):∀(xs:List (List α)),(∀x∈xs,x.length=sz)->xs.flatten.length=xs.length*sz
 | [],_=>by simp
 | x::xs,h=>by
  rw [List.flatten_cons,List.length_append,h x (by simp),tu sz xs (λy o=>h y (by simp [o])),List.length_cons,Nat.succ_mul,Nat.add_comm]
theorem Stands.elem {G:Gh} {w:World} {bx:Box} {xs:List (List D)} {b o sz:Nat} (h:Stands G w bx b o sz)
  (hb:bx = .vec sz xs\/bx = .froz sz xs) (i:Nat) (hi:i<xs.length) :
  xs[i].length=sz/\∃us:Nat->Value,(∀j,j<xs[i].length->w.cell? ⟨b,o+i*sz+j,none⟩=some (us j)/\(us j).oneCell'=true)/\∀j (hj:j<xs[i].length),RepD G.imm w (us j) xs[i][j]:=by
 have F:bx.all=(xs.map λx=>x.map V.d).flatten:=by rcases hb with rfl | rfl <;> rfl
 have B:∀x∈xs,x.length=sz:=by rcases hb with rfl | rfl <;> exact h.even
 refine⟨B _ (List.getElem_mem hi),?_⟩
 have J:∀x∈xs.map (λx=>x.map V.d),x.length=sz:=by
  intro x O
  obtain ⟨y,M,rfl⟩:=List.mem_map.1 O
  rw [List.length_map];exact B y M
 have A:∀j (hj:j<xs[i].length),∃u,(w.cell? ⟨b,o+i*sz+j,none⟩=some u/\u.oneCell'=true)/\RepD G.imm w u xs[i][j]:=by
  intro j hj
  obtain ⟨h1,h2⟩:=flat_get sz _ J i j (by simpa using hi) (by simpa using hj)
  have I:i*sz+j<bx.all.length:=by rw [F];exact h1
  obtain ⟨u,N,ho,L⟩:=h.cell (i*sz+j) I
  have e:bx.all[i*sz+j]=V.d xs[i][j]:=by
   have:bx.all[i*sz+j]? = some (V.d xs[i][j]):=by
    rw [F,List.getElem?_eq_getElem h1,h2];simp
   rw [List.getElem?_eq_getElem I]at this
   exact Option.some.inj this
  rw [e]at L
  exact⟨u,⟨by rw [show o+i*sz+j=o+(i*sz+j) by omega];exact N,ho⟩,L.d_inv⟩
 refine⟨λj=>if hj:j<xs[i].length then (A j hj).choose else undef,λj hj => ?_,λj hj => ?_⟩
 ·simp only [hj,dif_pos];exact (A j hj).choose_spec.1
 ·simp only [hj,dif_pos];exact (A j hj).choose_spec.2
theorem Stands.run {G:Gh} {w:World} {cs:List V} {b o sz s:Nat} (h:Stands G w (.cells s cs) b o sz) :
  ∃us:Nat->Value,(∀j,j<cs.length->w.cell? ⟨b,o+j,none⟩=some (us j))/\∀j (hj:j<cs.length),RepV G w (us j) cs[j]:=by
 have A:∀j (hj:j<cs.length),∃u,w.cell? ⟨b,o+j,none⟩=some u/\RepV G w u cs[j]:=λj hj=>let ⟨u,a,_,c⟩:=h.cell j hj;⟨u,a,c⟩
 refine⟨λj=>if hj:j<cs.length then (A j hj).choose else undef,λj hj => ?_,λj hj => ?_⟩
 ·simp only [hj,dif_pos];exact (A j hj).choose_spec.1
 ·simp only [hj,dif_pos];exact (A j hj).choose_spec.2
end Go.Eng

/-
  THE ENGINE: each operation does on memory what its computed effect says: loads, stores, addresses, arithmetic.
-/
namespace Go.Eng
set_option linter.unusedSectionVars false
variable [DM]
variable {P:Program}
theorem Inv.mono {E:Env} {G:Gh} {w:World} {S:Store} {tk:Nat} {U U':Nat->Prop} (h:Inv E G w S tk U) (o:∀n,U n->U' n):Inv E G w S tk U' :=
  { h with tick:=λn x A=>(h.tick n x A).imp id (fun⟨a,c⟩=>⟨a,o _ c⟩) }
def eZ (P:Program) (E:Env) (s:Sem Next) (dst:Option Nat) (G:Gh) (w:World) (S:Store) (tk:Nat) (U:Nat->Prop) (A:Eff):Prop :=
  ∃h u w' G',s.run P w = .ok h w'/\(h = .value u\/(h = .skip/\u=undef))/\Ext G w G' w' /\
    Inv E G' w' (fP S A.upd) tk (λn=>U n\/dst=some (n % 100000))/\RepV G' w' u A.val
section
variable {E:Env} {G:Gh} {w:World} {S:Store} {tk:Nat} {U:Nat->Prop} {dst:Option Nat}
theorem eZ.still (h:Inv E G w S tk U) {s:Sem Value} {u:Value} {v:V} {req:List (Nm×Box)} (A:s.run P w = .ok u w) (o:RepV G w u v) :
    eZ P E (do pure (.value (<- s))) dst G w S tk U ⟨req,[],v⟩ :=
  ⟨.value u,u,w,G,by simp [A],.inl rfl,Ext.refl G w,h.mono (λ_ x => .inl x),o⟩
theorem fV {v:V} {A:Eff} (h:iE v=some A):A=⟨[],[],v⟩:=by
  simp [iE]at h;exact h.symm
theorem Inv.stands (h:Inv E G w S tk U) {n:Nm} {bx:Box} (F:S n=some bx) {b o sz:Nat} (A:G.mu n=some (b,o,sz)):StandsBox G w bx b o sz/\(bx.mut=true->E.w.heap.size<=b\/E.M b):=by
  obtain ⟨b',J,I,h1,h2,B⟩:=h.box n bx F
  rw [A]at h1
  simp only [so_,Prod.mk.injEq]at h1
  obtain ⟨rfl,rfl,rfl⟩:=h1
  exact⟨h2,B⟩
theorem RepV.ref_inv {u:Value} {n:Nm} {i j:Nat} (h:RepV G w u (.ref n i j)):∃b o sz,G.mu n=some (b,o,sz)/\u = .pointer (some ⟨b,o+i*sz+j,Option.none⟩):=by
  cases h with | ref _ _ h=>exact⟨_,_,_,h,rfl⟩
theorem JP (h:Inv E G w S tk U) {t:TypeId} {u:Value} {a:V} {A:Eff} (X:RepV G w u a) (hf:vX P t S a=some A) :
    ∃Y x,u = .pointer (some Y)/\(loadVar t Y).run P w = .ok x w/\RepV G w x A.val/\A.upd=[]:=by
  unfold vX at hf
  split at hf
  · cases hf
  rename_i size hsz
  split at hf
  · rename_i cs
    simp only [Option.bind_eq_some_iff]at hf
    obtain ⟨v,N,Z⟩:=hf
    rw [fV Z]
    cases X.d_inv with
    | ptr _ _ _ us hI hc hr =>
      obtain ⟨x,L,I⟩:=Ee (G:=G) hsz _ _ cs us hc hr N
      exact⟨_,x,rfl,L,I,rfl⟩
  · rename_i n i j
    obtain ⟨b,o,B,M,rfl⟩:=X.ref_inv
    split at hf
    · rename_i sz xs R
      split at hf
      · rename_i cs O
        simp only [Option.map_eq_some_iff]at hf
        obtain ⟨v,N,rfl⟩:=hf
        have F:Stands G w (.vec sz xs) b o B:=(h.stands R M).1
        have W:B=sz:=F.sz
        subst W
        obtain ⟨hi,rfl⟩:=List.getElem?_eq_some_iff.1 O
        obtain ⟨hl,us,h1,h2⟩:=F.elem (.inl rfl) i hi
        obtain ⟨x,L,I⟩:=Ee (G:=G) hsz b (o+i*B+j) (xs[i].drop j) (λk=>us (j+k))
          (λk J=>by simp only [List.length_drop]at J;rw [Nat.add_assoc (o+i*B)];exact (h1 (j+k) (by omega)).1)
          (λk J=>by rw [List.getElem_drop];exact h2 (j+k) (by simp only [List.length_drop]at J;omega)) N
        exact⟨_,x,rfl,L,I,rfl⟩
      · cases hf
    · rename_i sz xs R
      split at hf
      · rename_i cs O
        simp only [Option.map_eq_some_iff]at hf
        obtain ⟨v,N,rfl⟩:=hf
        have F:Stands G w (.froz sz xs) b o B:=(h.stands R M).1
        have W:B=sz:=F.sz
        subst W
        obtain ⟨hi,rfl⟩:=List.getElem?_eq_some_iff.1 O
        obtain ⟨hl,us,h1,h2⟩:=F.elem (.inr rfl) i hi
        obtain ⟨x,L,I⟩:=Ee (G:=G) hsz b (o+i*B+j) (xs[i].drop j) (λk=>us (j+k))
          (λk J=>by simp only [List.length_drop]at J;rw [Nat.add_assoc (o+i*B)];exact (h1 (j+k) (by omega)).1)
          (λk J=>by rw [List.getElem_drop];exact h2 (j+k) (by simp only [List.length_drop]at J;omega)) N
        exact⟨_,x,rfl,L,I,rfl⟩
      · cases hf
    · rename_i sz cs R
      simp only [Option.map_eq_some_iff]at hf
      obtain ⟨v,N,rfl⟩:=hf
      have F:Stands G w (.cells sz cs) b o B:=(h.stands R M).1
      have W:B=sz:=F.sz
      subst W
      obtain ⟨us,h1,h2⟩:=F.run
      obtain ⟨x,L,I⟩:=Qf (G:=G) hsz b (o+i*B+j) (cs.drop (i*B+j)) (λk=>us (i*B+j+k))
        (λk J=>by simp only [List.length_drop]at J;rw [show o+i*B+j+k=o+(i*B+j+k) by omega];exact h1 (i*B+j+k) (by omega))
        (λk J=>by rw [List.getElem_drop];exact h2 (i*B+j+k) (by simp only [List.length_drop]at J;omega)) N
      exact⟨_,x,rfl,L,I,rfl⟩
    · cases hf
  · cases hf
theorem SS (h:Inv E G w S tk U) {t:TypeId} {u:Value} {a:V} {A:Eff} (B:RepV G w u a) (hf:vX P t S a=some A) :
    eZ P E (do pure (.value (<- Instr.loadAt t u))) dst G w S tk U A:=by
  obtain ⟨F,x,rfl,h1,h2,o⟩:=JP h B hf
  have:=eZ.still (dst:=dst) (req:=A.req) h (s:=Instr.loadAt t (.pointer (some F))) (by simpa [Instr.loadAt,Instr.sureAddr]using h1) h2
  rw [<- o]at this
  exact this
theorem RepD.cells_one {I:Nat->Nat->Prop} {u:Value} {x:D} (h:RepD I w u x) (o:∀cs,x ≠ .agg cs):u.oneCell'=true:=by
  cases h with
  | agg arr ds hl h=>exact absurd rfl (o ds)
  | _=>rfl
theorem RepV.oneCell {u:Value} {x:V} (h:RepV G w u x) (ho:kw x=true):u.oneCell'=true:=by
  cases h with
  | d h=>exact h.cells_one (λcs e=>by subst e;simp [kw]at ho)
  | agg | tup | none | any=>simp [kw]at ho
  | _=>rfl
theorem IU {u:Value} (h:u.oneCell'=true):u.cells = #[u]:=by
  cases u <;> first | rfl | simp [Value.oneCell']at h
theorem RepV.cells {u:Value} {x:V} (h:RepV G w u x) (ho:(bB x).all kw=true) :
    u.cells.toList.length=(bB x).length/\∀i (h1:i<u.cells.toList.length) (h2:i<(bB x).length),RepV G w u.cells.toList[i] (bB x)[i]:=by
  have base:∀{u:Value} {x:V},RepV G w u x->bB x=[x]->kw x=true ->
      u.cells.toList.length=(bB x).length/\∀i (h1:i<u.cells.toList.length) (h2:i<(bB x).length),RepV G w u.cells.toList[i] (bB x)[i]:=by
    intro u x h e h1
    have A:=IU (h.oneCell h1)
    refine⟨by rw [e,A];rfl,λi a c => ?_⟩
    have hi:i=0:=by rw [e]at c;simp at c;exact c
    subst hi
    simp only [e,A]
    exact h
  cases x with
  | d x =>
    cases x with
    | agg ds =>
      cases h.d_inv with
      | agg arr _ hl o =>
        refine⟨by simpa [Value.cells,bB]using hl,λi a c => ?_⟩
        simp only [Value.cells,bB,List.getElem_map]
        exact .d (o i (by simpa [Value.cells]using a) (by simpa [bB]using c))
    | int k n=>exact base h rfl rfl
    | bool b=>exact base h rfl rfl
    | str s=>exact base h rfl rfl
    | sl xs=>exact base h rfl rfl
    | ptr cs=>exact base h rfl rfl
    | nilp=>exact base h rfl rfl
    | wild sz len=>exact base h rfl rfl
    | wildp k=>exact base h rfl rfl
    | nils=>exact base h rfl rfl
  | agg vs =>
    cases h with
    | agg arr _ hl o=>exact⟨by simpa [Value.cells,bB]using hl,λi a c=>o i (by simpa [Value.cells]using a) (by simpa [bB]using c)⟩
  | tup vs=>simp [bB,kw]at ho
  | none=>simp [bB,kw]at ho
  | any=>simp [bB,kw]at ho
  | nil=>exact base h rfl rfl
  | nilm=>exact base h rfl rfl
  | nili=>exact base h rfl rfl
  | ref n i j=>exact base h rfl rfl
  | vs n sz k len=>exact base h rfl rfl
  | fn f caps=>exact base h rfl rfl
  | map n=>exact base h rfl rfl
theorem RepV.cells_ones {u:Value} {x:V} (h:RepV G w u x) (ho:(bB x).all kw=true):∀c∈u.cells.toList,c.oneCell'=true:=by
  intro c hc
  obtain ⟨i,hi,rfl⟩:=List.getElem_of_mem hc
  obtain ⟨h1,h2⟩:=h.cells ho
  exact (h2 i hi (h1 ▸ hi)).oneCell (List.all_eq_true.1 ho _ (List.getElem_mem _))
theorem wU (w:World) (g:Nat) (cs cur:Array Value) (t:TypeId) (fr:Nat×Nat) (h:w.heap[g]? = some (.cells cur t fr)) :
    (w.setRow g cs).heap[g]? = some (.cells cs t fr):=by
  simp only [World.setRow,Array.getElem?_modify,if_true,h,Option.map_some]
theorem setRow_other (w:World) (g b:Nat) (cs:Array Value) (h:b≠g):(w.setRow g cs).heap[b]? = w.heap[b]? := by
  simp only [World.setRow,Array.getElem?_modify]
  rw [if_neg (λe=>h e.symm)]
theorem setRow_size (w:World) (g:Nat) (cs:Array Value):(w.setRow g cs).heap.size=w.heap.size:=by
  simp [World.setRow]
theorem cell_of_row {w:World} {b:Nat} {arr:Array Value} {t:TypeId} {fr:Nat×Nat} (h:w.heap[b]? = some (.cells arr t fr)) (o:Nat) :
    w.cell? ⟨b,o,none⟩=arr[o]? := by
  simp [World.cell?,h]
theorem bA {w:World} {b:Nat} {arr:Array Value} {t:TypeId} {fr:Nat×Nat} (h:w.heap[b]? = some (.cells arr t fr)):bsize w b=arr.size:=by
  simp [bsize,h]
theorem dE {α:Type} (cs new:List α) (o:Nat) (h:o+new.length<=cs.length):(splice cs new o).length=cs.length:=by
  simp [splice];omega
theorem qJ {α:Type} (cs new:List α) (o:Nat) (h:o+new.length<=cs.length) (i:Nat) :
    (splice cs new o)[i]? = if o<=i/\i<o+new.length then new[i-o]? else cs[i]? := by
  have ht:(cs.take o).length=o:=by simp;omega
  unfold splice
  by_cases h1:i<o
  · rw [if_neg (by omega),List.getElem?_append_left (by simp;omega),List.getElem?_append_left (by omega),List.getElem?_take_of_lt h1]
  · by_cases h2:i<o+new.length
    · rw [if_pos ⟨by omega,h2⟩,List.getElem?_append_left (by simp;omega),List.getElem?_append_right (by omega),ht]
    · rw [if_neg (by omega),List.getElem?_append_right (by simp;omega),List.getElem?_drop]
      congr 1
      simp only [List.length_append,ht];omega
theorem oN {α:Type} (cs new:List α) (o:Nat) (h:o+new.length<=cs.length) (i:Nat) (hi:i<(splice cs new o).length) :
    (splice cs new o)[i]=if h1:o<=i/\i<o+new.length then new[i-o]'(by omega)else cs[i]'(by rw [dE cs new o h]at hi;exact hi):=by
  have A:=qJ cs new o h i
  rw [List.getElem?_eq_getElem hi]at A
  split
  · rename_i h1
    rw [if_pos h1,List.getElem?_eq_getElem (by omega)]at A
    exact Option.some.inj A
  · rename_i h1
    rw [if_neg h1,List.getElem?_eq_getElem (by rw [dE cs new o h]at hi;exact hi)]at A
    exact Option.some.inj A
theorem Fe {w w':World} {bx bx':Box} {b o off:Nat} (h:celB w bx b o) (B:celK bx bx' off):celB w' bx' b o:=by
  cases bx' with
  | cells s cs =>
    obtain ⟨⟨A,rfl⟩,hs⟩:=B
    exact⟨h.1,λh2=>absurd hs (Nat.not_lt_of_le h2)⟩
  | _=>exact trivial
theorem JF (h:Inv E G w S tk U) {n:Nm} {bx bx':Box} {b o sz:Nat} (hS:S n=some bx) (W:bx.mut=true) (N:bx.row=true) (hmu:G.mu n=some (b,o,sz))
    {t:TypeId} {size:Nat} (hsz:szT P t=some size) {u:Value} (x:List V) (off:Nat)
    (hul:u.cells.toList.length=x.length) (hur:∀i (h1:i<u.cells.toList.length) (h2:i<x.length),RepV G w u.cells.toList[i] x[i])
    (huo:∀c∈u.cells.toList,c.oneCell'=true)
    (hxs:x.length=size) (hfit:off+size<=bx.all.length) (I:bx'.all=splice bx.all x off) (hsz':bx'.sz=bx.sz) (hev:bx'.even) (X:bx'.mut=true) (F:bx'.row=true) (hkin:celK bx bx' off:=by exact trivial) :
    ∃w',(Instr.storeAt t (.pointer (some ⟨b,o+off,none⟩)) u).run P w = .ok () w'/\Inv E G w' (supd S n (some bx')) tk U/\Ext G w G w':=by
  have hst0:=(h.stands hS hmu).1
  have J:Stands G w bx b o sz:=by
    cases bx with
    | map es=>cases N
    | pmap es=>cases N
    | iter c l=>cases N
    | _=>exact hst0
  obtain ⟨⟨arr,elem,B⟩,L⟩:=J.free W
  have hbs:=bA B
  have M:=J.room
  rw [hbs]at M
  have hcl:u.cells.size=size:=by rw [<- hxs,<- hul];simp
  have hrun:=run_storeCells_at P b (o+off) elem u.cells.toList 0 arr w B (by simp;omega) huo
  refine⟨w.setRow b (arr.toList.take (o+off)++u.cells.toList++arr.toList.drop (o+off+u.cells.toList.length)).toArray,?_,?_⟩
  · have Z:(storeCells ⟨b,o+off,none⟩ u.cells.toList).run P w = .ok () (w.setRow b (arr.toList.take (o+off)++u.cells.toList++arr.toList.drop (o+off+u.cells.toList.length)).toArray):=hrun
    simp only [Instr.storeAt,Instr.sureAddr,Sem.run_bind,Sem.run_pure,Result.andThen_ok,storeVar,run_sizeOf hsz,hcl,ne_eq,not_true_eq_false,if_false,Z]
  · have O : (w.setRow b (arr.toList.take (o + off) ++ u.cells.toList ++ arr.toList.drop (o + off + u.cells.toList.length)).toArray).heap[b]? =
        some (.cells (splice arr.toList u.cells.toList (o+off)).toArray elem (0,0)):=wU w b _ arr elem (0,0) B
    have A:o+off+u.cells.toList.length<=arr.toList.length:=by rw [hul,hxs];simp;omega
    refine h.write hS W hmu (λb' hb'=>setRow_other w b b' _ hb') (setRow_size w b _) ?_ (λe he=>by rw [lm B]at he;rw [lm O];exact he) L rfl rfl rfl bx' (λe => ?_)
    · rw [hbs,bA O];simp [dE _ _ _ A]
    · have hs:Stands G (w.setRow b (arr.toList.take (o+off)++u.cells.toList++arr.toList.drop (o+off+u.cells.toList.length)).toArray) bx' b o sz :=
        { sz:=by rw [hsz'];exact J.sz
          even:=hev
          room:=by rw [I,dE _ _ _ (by omega),bA O,List.size_toArray,dE _ _ _ A];simpa using M
          cell:=λj hj=>by
            have hj0:j<bx.all.length:=by rw [I,dE _ _ _ (by omega)]at hj;exact hj
            have hlen:o+j<(splice arr.toList u.cells.toList (o+off)).length:=by rw [dE _ _ _ A];simp;omega
            refine⟨(splice arr.toList u.cells.toList (o+off))[o+j],?_,?_,?_⟩
            · rw [cell_of_row O];simp [hlen]
            · rw [oN _ _ _ A]
              split
              · exact huo _ (List.getElem_mem _)
              · rename_i Y
                obtain ⟨v,hv,h1,hr⟩:=J.cell j hj0
                rw [cell_of_row B]at hv
                have R:o+j<arr.size:=by omega
                rw [Array.getElem?_eq_getElem R,so_]at hv
                have:arr.toList[o+j]=v:=by rw [<- hv];simp
                rw [this];exact h1
            · rw [oN _ _ _ A]
              simp only [I]
              rw [oN _ _ _ (by omega)]
              by_cases Y:off<=j/\j<off+x.length
              · rw [dif_pos Y,dif_pos (by omega)]
                have:=(hur (j-off) (by omega) (by omega)).ext e
                simpa [show o+j-(o+off)=j-off by omega]using this
              · rw [dif_neg Y,dif_neg (by omega)]
                obtain ⟨v,hv,_,hr⟩:=J.cell j hj0
                rw [cell_of_row B]at hv
                have R:o+j<arr.size:=by omega
                rw [Array.getElem?_eq_getElem R,so_]at hv
                have:arr.toList[o+j]=v:=by rw [<- hv];simp
                rw [this]
                exact hr.ext e
          free:=λ_=>⟨⟨_,_,O⟩,L⟩
          froz:=λhx=>(by rw [X]at hx;cases hx)
          cel:=Fe J.cel hkin }
      cases bx' with
      | map es=>cases F
      | pmap es=>cases F
      | iter c l=>cases F
      | _=>exact hs
theorem AB:∀{vs:List V} {ds:List D},uH vs=some ds->ds.length=vs.length
  | [],ds,h=>by simp [uH]at h;subst h;rfl
  | v::vs,ds,h=>by
    cases v with
    | d x =>
      simp only [uH,Option.map_eq_some_iff]at h
      obtain ⟨o,h1,rfl⟩:=h
      simp [AB h1]
    | nil =>
      simp only [uH,Option.map_eq_some_iff]at h
      obtain ⟨o,h1,rfl⟩:=h
      simp [AB h1]
    | _=>simp [uH]at h
theorem AP:∀{vs:List V} {ds:List D} (_:uH vs=some ds) (i:Nat) (h1:i<vs.length) (h2:i<ds.length) (u:Value),RepV G w u vs[i]->RepD G.imm w u ds[i]
  | [],_,_,i,h1,_,_,_=>absurd h1 (Nat.not_lt_zero i)
  | v::vs,ds,h,i,h1,h2,u,o=>by
    cases v with
    | d x =>
      simp only [uH,Option.map_eq_some_iff]at h
      obtain ⟨B,A,rfl⟩:=h
      cases i with
      | zero=>exact o.d_inv
      | succ i=>exact AP A i (by simpa using h1) (by simpa using h2) u o
    | nil =>
      simp only [uH,Option.map_eq_some_iff]at h
      obtain ⟨B,A,rfl⟩:=h
      cases i with
      | zero =>
        have F:RepV G w u .nil:=o
        cases F with
        | nil a=>exact .sl0 _ _
      | succ i=>exact AP A i (by simpa using h1) (by simpa using h2) u o
    | _=>simp [uH]at h
theorem Nv {α β:Type} (f:α->β) (cs new:List α) (o:Nat):(splice cs new o).map f=splice (cs.map f) (new.map f) o:=by
  simp [splice,List.map_drop,List.map_take]
theorem E9 {α:Type} (sz:Nat):∀(xs:List (List α)),(∀x∈xs,x.length=sz)->∀(i j:Nat) (new:List α) (hi:i<xs.length),j+new.length<=xs[i].length ->
    (xs.set i (splice xs[i] new j)).flatten=splice xs.flatten new (i*sz+j)
  | [],_,i,_,_,hi,_=>absurd hi (Nat.not_lt_zero i)
  | x::xs,A,0,j,new,hi,hj=>by
    have h:j+new.length<=x.length:=hj
    simp only [List.set_cons_zero,List.flatten_cons,Nat.zero_mul,Nat.zero_add,splice,List.getElem_cons_zero]
    rw [List.take_append_of_le_length (by omega),List.drop_append_of_le_length (by omega)]
    simp
  | x::xs,A,i+1,j,new,hi,hj=>by
    have L:x.length=sz:=A x (by simp)
    have o:i<xs.length:=by simpa using hi
    have h:j+new.length<=xs[i].length:=by simpa using hj
    have J:=E9 sz xs (λy B=>A y (by simp [B])) i j new o h
    simp only [List.set_cons_succ,List.flatten_cons,List.getElem_cons_succ]
    rw [J]
    have e:(i+1)*sz+j=x.length+(i*sz+j):=by rw [Nat.succ_mul];omega
    unfold splice
    rw [e,List.take_append,List.drop_append]
    have F:List.take (x.length+(i*sz+j)) x=x:=List.take_of_length_le (by omega)
    have I:List.drop (x.length+(i*sz+j)+new.length) x=[]:=List.drop_eq_nil_of_le (by omega)
    rw [F,I]
    simp only [Nat.add_sub_cancel_left,List.append_assoc,List.nil_append]
    congr 4
    omega
theorem RQ {α:Type} {sz:Nat} {xs:List (List α)} (B:∀x∈xs,x.length=sz) (i:Nat) (y:List α) (o:y.length=sz):∀x∈xs.set i y,x.length=sz:=by
  intro x A
  rcases List.mem_or_eq_of_mem_set A with h|h
  · exact B x h
  · rw [h,o]
theorem Oj (h:Inv E G w S tk U) {b m off:Nat} {arr:Array Value} {elem:TypeId} (F:w.heap[b]? = some (.cells arr elem (0,0))) (hm:G.imm b m) (vs:List Value) (hne:0<vs.length) (J:off+vs.length<=arr.toList.length)
    (hf:∀o,off<=o->o<off+vs.length->¬G.imm b o) :
    Inv E G (w.setRow b (splice arr.toList vs off).toArray) S tk U/\Ext G w G (w.setRow b (splice arr.toList vs off).toArray):=by
  have I:(w.setRow b (splice arr.toList vs off).toArray).heap[b]? = some (.cells (splice arr.toList vs off).toArray elem (0,0)):=wU w b _ arr elem (0,0) F
  have A:∀b',b'≠b->(w.setRow b (splice arr.toList vs off).toArray).heap[b']? = w.heap[b']? := λb' W=>setRow_other w b b' _ W
  have X:bsize (w.setRow b (splice arr.toList vs off).toArray) b=bsize w b:=by
    rw [bA I,bA F];simp [dE _ _ _ J]
  have e:Ext G w G (w.setRow b (splice arr.toList vs off).toArray) :=
    { imm:=λ_ _ h=>h
      cell:=λb' o hb=>by
        by_cases B:b'=b
        · subst B
          rw [cell_of_row I,cell_of_row F,List.getElem?_toArray,qJ _ _ _ J,if_neg (λL=>hf o L.1 L.2 hb),Array.getElem?_toList]
        · exact yn (A b' B) o
      mu:=λ_ _ h=>h
      size:=λb'=>by
        by_cases B:b'=b
        · subst B;rw [X];exact Nat.le_refl _
        · rw [yI (A b' B)];exact Nat.le_refl _
      elem:=λb' e R=>by
        by_cases B:b'=b
        · subst B;rw [lm F]at R;rw [lm I];exact R
        · rw [Fa (A b' B)];exact R
      map:=λb' arr' clk _ e=>by
        by_cases B:b'=b
        · subst B;rw [F]at e;cases e
        · rw [A b' B];exact e
      still:=λ_ _ _ _ h=>h
      thaw:=λb' m _ ht=>by
        by_cases B:b'=b
        · subst B;exact⟨_,_,I⟩
        · exact GL (A b' B) ht }
  refine⟨{ h with ext:=h.ext.trans e,frame:=λb' hb O Z => ?_,size:=by rw [setRow_size];exact h.size,os:=h.os,tape:=h.tape,output:=h.output,box:=λn bx hS => ?_,bound:=λn b' o sz B=>by rw [setRow_size];exact h.bound n b' o sz B,immB:=λb' o hb=>by rw [setRow_size];exact h.immB b' o hb,dr:=h.dr },e⟩
  · by_cases B:b'=b
    · subst B
      exfalso
      have M:=h.frame b' hb O Z
      rcases h.newI b' m hm with k|k|k
      · refine Z ⟨⟨m,k⟩,off,?_,λk2=>hf off (Nat.le_refl _) (by omega) (h.ext.imm _ _ k2)⟩
        rw [<- yI M,bA F]
        have:arr.toList.length=arr.size:=by simp
        omega
      · omega
      · exact O k
    · rw [A b' B];exact h.frame b' hb O Z
  · obtain ⟨b',o',Y,h1,h2,h3⟩:=h.box n bx hS
    refine⟨b',o',Y,h1,h2.ext e (λN=>A b' (λB => ?_)) (λ_ _ h=>h),h3⟩
    subst B
    exact h2.noimm N m hm
theorem QC (h:Inv E G w S tk U) {t:TypeId} {u v:Value} {a x:V} {A:Eff} (ha:RepV G w u a) (hx:RepV G w v x) (hf:vN P t S a x=some A) :
    eZ P E (do Instr.storeAt t u v;pure .skip) dst G w S tk U A:=by
  have fin:∀{bx':Box} {n:Nm} {req:List (Nm×Box)},(∃w',(Instr.storeAt t u v).run P w = .ok () w'/\Inv E G w' (supd S n (some bx')) tk U/\Ext G w G w') ->
      eZ P E (do Instr.storeAt t u v;pure .skip) dst G w S tk U ⟨req,[(n,some bx')],.none⟩:=by
    rintro bx' n req ⟨w',h1,h2,L⟩
    exact⟨.skip,undef,w',G,by simp [h1],.inr ⟨rfl,rfl⟩,L,h2.mono (λ_ x => .inl x),.none⟩
  unfold vN at hf
  split at hf
  · cases hf
  rename_i size hsz
  split at hf
  · rename_i n i j
    obtain ⟨b,o,B,N,rfl⟩:=ha.ref_inv
    split at hf
    · rename_i sz cs hS
      have M:Stands G w (.cells sz cs) b o B:=(h.stands hS N).1
      have Z:B=sz:=M.sz
      subst Z
      cases hc:(Nat.beq (bB x).length size&&Nat.ble (i*B+j+size) cs.length&&(bB x).all kw&&Nat.blt B 1048576)with
      | false=>simp only [hc,cond_false]at hf;cases hf
      | true =>
        simp only [hc,cond_true,so_]at hf
        subst hf
        simp only [Bool.and_eq_true]at hc
        obtain ⟨⟨⟨h1,h2⟩,L⟩,h4⟩:=hc
        have J:=Nat.eq_of_beq_eq_true h1
        have X:=Nat.le_of_ble_eq_true h2
        obtain ⟨W,c2⟩:=hx.cells L
        refine fin ?_
        rw [show o+i*B+j=o+(i*B+j) by omega]
        have hkin:celK (.cells B cs) (.cells B (splice cs (bB x) (i*B+j))) (i*B+j):=⟨⟨cs,rfl⟩,by simpa [Nat.blt_eq]using h4⟩
        exact JF h hS rfl rfl N hsz (bB x) (i*B+j) W c2 (hx.cells_ones L) J X rfl rfl trivial rfl rfl hkin
    · rename_i sz xs hS
      have M:Stands G w (.vec sz xs) b o B:=(h.stands hS N).1
      have Z:B=sz:=M.sz
      subst Z
      split at hf
      · rename_i cs new hcs R
        cases hc:(Nat.beq new.length size&&Nat.ble (j+size) cs.length&&(bB x).all kw)with
        | false=>simp only [hc,cond_false]at hf;cases hf
        | true =>
          simp only [hc,cond_true,so_]at hf
          subst hf
          simp only [Bool.and_eq_true]at hc
          obtain ⟨⟨h1,h2⟩,L⟩:=hc
          have J:=Nat.eq_of_beq_eq_true h1
          have X:=Nat.le_of_ble_eq_true h2
          obtain ⟨hi,rfl⟩:=List.getElem?_eq_some_iff.1 hcs
          obtain ⟨W,c2⟩:=hx.cells L
          have hlen:=AB R
          have F:∀y∈xs,y.length=B:=M.even
          have hil:xs[i].length=B:=F _ (List.getElem_mem hi)
          have hsl:(splice xs[i] new j).length=B:=by rw [dE _ _ _ (by omega),hil]
          have hall:(Box.vec B xs).all.length=xs.length*B:=by
            show ((xs.map λx=>x.map V.d).flatten).length=_
            rw [tu B _ (λy hy=>by obtain ⟨z,Z,rfl⟩:=List.mem_map.1 hy;rw [List.length_map];exact F z Z)]
            simp
          have hb:i*B+B<=xs.length*B:=by rw [<- Nat.succ_mul];exact Nat.mul_le_mul_right _ hi
          refine fin ?_
          rw [show o+i*B+j=o+(i*B+j) by omega]
          refine JF h hS rfl rfl N hsz (new.map .d) (i*B+j) (by rw [List.length_map,hlen];exact W) (λk a1 a2 => ?_) (hx.cells_ones L) (by simpa using J) (by rw [hall];omega) ?_ rfl ?_ rfl rfl
          · rw [List.getElem_map]
            exact .d (AP R k (W ▸ a1) (by simpa using a2) _ (c2 k a1 (W ▸ a1)))
          · show ((xs.set i (splice xs[i] new j)).map λx=>x.map V.d).flatten=splice ((xs.map λx=>x.map V.d).flatten) (new.map .d) (i*B+j)
            rw [List.map_set,Nv]
            have:=E9 B (xs.map λx=>x.map V.d) (λy hy=>by obtain ⟨z,Z,rfl⟩:=List.mem_map.1 hy;rw [List.length_map];exact F z Z) i j (new.map .d) (by simpa using hi) (by simp;omega)
            simpa using this
          · exact RQ F i _ hsl
      · cases hf
    · cases hf
  · rename_i k
    cases hc:(Nat.beq (bB x).length size&&Nat.ble size k&&(bB x).all kw&&Nat.blt 0 size)with
    | false=>simp only [hc,cond_false]at hf;cases hf
    | true =>
      simp only [hc,cond_true,so_]at hf
      subst hf
      simp only [Bool.and_eq_true]at hc
      obtain ⟨⟨⟨h1,h2⟩,L⟩,h4⟩:=hc
      have J:=Nat.eq_of_beq_eq_true h1
      have X:=Nat.le_of_ble_eq_true h2
      have h4':0<size:=by simpa [Nat.blt_eq]using h4
      obtain ⟨W,c2⟩:=hx.cells L
      have huo:=hx.cells_ones L
      cases ha.d_inv with
      | wildp b off _ m ht hm hfr hbd =>
        obtain ⟨arr,elem,I⟩:=ht
        rw [bA I]at hbd
        have hul:v.cells.toList.length=size:=W.trans J
        have hcl:v.cells.size=size:=by rw [<- hul];simp
        have O:off+v.cells.toList.length<=arr.toList.length:=by rw [hul];simp;omega
        have hrun:=run_storeCells_at P b off elem v.cells.toList 0 arr w I (by simp;simp at O;omega) huo
        have Y:(storeCells ⟨b,off,none⟩ v.cells.toList).run P w = .ok () (w.setRow b (splice arr.toList v.cells.toList off).toArray):=hrun
        obtain ⟨i,e⟩:=Oj h I hm v.cells.toList (by omega) O (λo a1 a2=>hfr o a1 (by omega))
        refine⟨.skip,undef,_,G,?_,.inr ⟨rfl,rfl⟩,e,i.mono (λ_ x => .inl x),.none⟩
        simp only [Instr.storeAt,Instr.sureAddr,Sem.run_bind,Sem.run_pure,Result.andThen_ok,storeVar,run_sizeOf hsz,hcl,ne_eq,not_true_eq_false,if_false,Y]
  · cases hf
end
end Go.Eng

/-
  THE ENGINE: what makes memory (alloc, box, literals of structs and slices), and the plain operations.
-/
namespace Go.Eng
set_option linter.unusedSectionVars false
variable [DM]
variable {P:Program}
section
variable {E:Env} {G:Gh} {w:World} {S:Store} {tk:Nat} {U:Nat->Prop}
theorem oo (G:Gh) (w:World) (c:Value):RepV G w c (sQ c):=by
  unfold sQ
  split
  · exact .d (.int _ _)
  · exact .d (.bool _)
  · exact .d (.str _)
  · exact .nil _
  · exact .d .nilp
  · exact .nilm
  · exact .nili
  · exact .any _
theorem Mi (G:Gh) (w:World) (v:Value):RepV G w v (valV v):=by
  unfold valV
  split
  · rename_i cs
    have:Value.agg cs=Value.agg cs.toList.toArray:=by simp
    rw [this]
    exact rZ (by simp) (λi h1 h2=>by rw [List.getElem_map];exact oo G w _)
  · rename_i vs
    split
    · rename_i h
      have:vs = #[]:=by simpa using h
      subst this
      exact .none
    · exact .any _
  · exact oo G w _
theorem Bt (h:Inv E G w S tk U) {dst:Nat} (M:dst<100000) (R:¬U dst) (elem:TypeId) (arr:Array Value) (vs:List V) (hl:arr.toList.length=vs.length) (L:vs.length<1048576) (A:vs.all kw=true)
    (N:∀i (h1:i<arr.toList.length) (h2:i<vs.length),RepV G w arr.toList[i] vs[i]) {s:Sem Value}
    (B:s.run P w = .ok (.pointer (some ⟨w.heap.size,0,none⟩)) (w.alloc (.cells arr elem))) :
    eZ P E (do pure (.value (<- s))) (some dst) G w S tk U ⟨[],[((dst,tk),some (.cells vs.length vs))],.ref (dst,tk) 0 0⟩:=by
  obtain ⟨h1,h2⟩:=h.allocBox dst R (.cells arr elem) (.cells vs.length vs) (λG' I e=>by
    have hb:=jX w (.cells arr elem)
    have hs:Stands G' (w.alloc (.cells arr elem)) (.cells vs.length vs) w.heap.size 0 vs.length :=
      { sz:=rfl,even:=trivial
        room:=by rw [bA hb];show 0+vs.length<=_;simp at hl;omega
        cell:=λj hj=>by
          have F:j<vs.length:=hj
          have o:j<arr.toList.length:=by omega
          refine⟨arr.toList[j],?_,(N j o F).oneCell (List.all_eq_true.1 A _ (List.getElem_mem _)),(N j o F).ext e⟩
          rw [cell_of_row hb,Nat.zero_add,<- Array.getElem?_toList,List.getElem?_eq_getElem o]
        free:=λ_=>⟨⟨arr,elem,hb⟩,λX J=>Nat.lt_irrefl _ (h.immB _ _ ((I _ _).1 J))⟩
        froz:=λW=>by simp [Box.mut]at W
        cel:=⟨λ_=>rfl,λhs=>absurd hs (Nat.not_le_of_lt L)⟩ }
    exact hs)
  refine⟨.value (.pointer (some ⟨w.heap.size,0,none⟩)),.pointer (some ⟨w.heap.size,0,none⟩),_,_,by simp only [Sem.run_bind,B,Result.andThen_ok,Sem.run_pure],.inl rfl,h2,h1.mono (λn O=>O.imp id (λe=>by rw [e,Nat.mod_eq_of_lt M])),?_⟩
  have:(⟨w.heap.size,0,none⟩:Addr)=⟨w.heap.size,0+0*vs.length+0,none⟩:=by simp
  rw [this]
  exact .ref 0 0 (by simp [Box.sz])
theorem oz (w:World) (elem:TypeId) (cells:Array Value):(newRow elem cells).run P w = .ok ⟨w.heap.size,0,none⟩ (w.alloc (.cells cells elem)):=rfl
theorem y5 (w:World) (t:TypeId) (v:Value):(newVar t v).run P w = .ok ⟨w.heap.size,0,none⟩ (w.alloc (.cells v.cells t)):=rfl
theorem boxF_ok (h:Inv E G w S tk U) {dst:Nat} (B:dst<100000) (I:¬U dst) {t:TypeId} {u:Value} {x:V} {A:Eff} (J:RepV G w u x) (hf:NH x dst tk=some A) :
    eZ P E (do pure (.value (<- Instr.box t u))) (some dst) G w S tk U A:=by
  unfold NH at hf
  cases hob:((bB x).all kw&&Nat.blt (bB x).length 1048576)with
  | false=>simp only [hob,cond_false]at hf;cases hf
  | true =>
  simp only [hob,cond_true,so_]at hf
  subst hf
  obtain ⟨ho,o⟩:=(Bool.and_eq_true _ _).mp hob
  obtain ⟨F,L⟩:=J.cells ho
  exact Bt h B I t u.cells (bB x) F (by simpa [Nat.blt_eq]using o) ho L (by simp [Instr.box,y5])
theorem nG {t:TypeId} {z:Value} (h:(P.info? t).bind (·.zero)=some z) (w:World):(zeroValue t).run P w = .ok z w:=by
  cases hi:P.info? t with
  | none=>simp [hi]at h
  | some i =>
    simp only [hi,ob_]at h
    simp [zeroValue,typeInfo,hi,h]
theorem Qx (h:Inv E G w S tk U) {dst:Nat} (F:dst<100000) (I:¬U dst) {t:TypeId} {A:Eff} (hf:BK P t dst tk=some A) :
    eZ P E (do pure (.value (<- Instr.alloc t true (.tuple #[])))) (some dst) G w S tk U A:=by
  unfold BK zeroCells at hf
  split at hf
  · rename_i cs o
    cases hob:(cs.all kw&&Nat.blt cs.length 1048576)with
    | false=>simp only [hob,cond_false]at hf;cases hf
    | true =>
    simp only [hob,cond_true,so_]at hf
    subst hf
    obtain ⟨ho,B⟩:=(Bool.and_eq_true _ _).mp hob
    simp only [Option.map_eq_some_iff]at o
    obtain ⟨z,J,rfl⟩:=o
    exact Bt h F I t z.cells (z.cells.toList.map sQ) (by simp) (by simpa [Nat.blt_eq]using B) ho (λi h1 h2=>by rw [List.getElem_map];exact oo G w _)
      (by simp [Instr.alloc,nG J,y5])
  · cases hf
theorem NS (h:Inv E G w S tk U) {dst:Nat} (Z:dst<100000) (hd:¬U dst) {t:TypeId} {A:Eff} (hf:AO P t dst tk=some A) :
    eZ P E (do pure (.value (<- Instr.alloc t true (.tuple #[])))) (some dst) G w S tk U A:=by
  unfold AO zeroCells at hf
  split at hf
  · rename_i M
    simp only [so_]at hf
    subst hf
    simp only [Option.map_eq_some_iff]at M
    obtain ⟨z,hz,o⟩:=M
    obtain ⟨B,F,N,J,I⟩:∃B F,z.cells.toList=[B,F]/\sQ B = .d .nilp/\sQ F = .nil:=by
      match hl:z.cells.toList,o with
      | [B,F],o =>
        simp only [List.map_cons,List.map_nil,List.cons.injEq,and_true]at o
        exact⟨B,F,rfl,o.1,o.2⟩
      | [],o=>simp at o
      | [_],o=>simp at o
      | _::_::_::_,o=>simp at o
    have Y:z.cells = #[B,F]:=Array.ext' N
    have h0:B = .pointer none:=by
      cases B with
      | pointer p=>cases p with
        | none=>rfl
        | some a=>simp [sQ]at J
      | slice a l k =>
        exfalso
        unfold sQ at J
        split at J <;> first | (cases J;done) | (rename_i O;cases O)
      | map m=>cases m <;> simp [sQ]at J
      | _=>simp [sQ]at J
    subst h0
    have h1:F = .slice none 0 0:=by
      cases F with
      | pointer p=>cases p with
        | none=>simp [sQ]at I
        | some a=>simp [sQ]at I
      | slice a l k =>
        unfold sQ at I
        split at I <;> first | (cases I;done) | (rename_i O;cases O;done) | assumption
      | map m=>cases m <;> simp [sQ]at I
      | _=>simp [sQ]at I
    subst h1
    have hb:=jX w (.cells #[Value.pointer none,Value.slice none 0 0] t)
    obtain ⟨i1,i2⟩:=h.allocBox dst hd (.cells #[Value.pointer none,Value.slice none 0 0] t) (.cells (1048576+t) [.any,.nil]) (λG' X e=>by
      have hs:Stands G' (w.alloc (.cells #[Value.pointer none,Value.slice none 0 0] t)) (.cells (1048576+t) [.any,.nil]) w.heap.size 0 (1048576+t) :=
        { sz:=rfl,even:=trivial
          room:=by rw [bA hb];show 0+2<=2;omega
          cell:=λj hj=>by
            have W:j<2:=hj
            match j,W with
            | 0,_=>exact⟨.pointer none,by rw [cell_of_row hb];rfl,rfl,.any _⟩
            | 1,_=>exact⟨.slice none 0 0,by rw [cell_of_row hb];rfl,rfl,.nil none⟩
          free:=λ_=>⟨⟨_,t,hb⟩,λo' R=>Nat.lt_irrefl _ (h.immB _ _ ((X _ _).1 R))⟩
          froz:=λhx=>by simp [Box.mut]at hx
          cel:=⟨λ_=>rfl,λ_=>⟨_,_,by rw [Nat.add_sub_cancel_left];exact hb,.inl rfl,.inl rfl⟩⟩ }
      exact hs)
    refine⟨.value (.pointer (some ⟨w.heap.size,0,none⟩)),.pointer (some ⟨w.heap.size,0,none⟩),_,_,?_,.inl rfl,i2,i1.mono (λn hn=>hn.imp id (λe=>by rw [e,Nat.mod_eq_of_lt Z])),?_⟩
    · have L:(Instr.alloc t true (.tuple #[])).run P w = .ok (.pointer (some ⟨w.heap.size,0,none⟩)) (w.alloc (.cells #[Value.pointer none,Value.slice none 0 0] t)):=by
        simp [Instr.alloc,nG hz,y5,Y]
      simp only [Sem.run_bind,L,Result.andThen_ok,Sem.run_pure]
    · have:(⟨w.heap.size,0,none⟩:Addr)=⟨w.heap.size,0+0*(1048576+t)+0,none⟩:=by simp
      rw [this]
      exact .ref 0 0 (by simp [Box.sz])
  · cases hf
theorem Tt {α β:Type} (arr:Array α) (f:α->Sem β) (g:α->β) (w:World) (h:∀x∈arr,(f x).run P w = .ok (g x) w) :
    (arr.mapM f).run P w = .ok (arr.map g) w:=by
  have hl:∀l:List α,(∀x∈l,(f x).run P w = .ok (g x) w)->(l.mapM f).run P w = .ok (l.map g) w:=by
    intro l
    induction l with
    | nil=>intro _;simp
    | cons x l B =>
      intro o
      simp [List.mapM_cons,o x (by simp),B (λy A=>o y (by simp [A]))]
  rw [Array.mapM_eq_mapM_toList]
  simp only [Sem.run_map,hl arr.toList (λx o=>h x (by simpa using o)),Result.andThen_ok]
  congr 1
  apply Array.ext'
  simp
theorem yu:∀(new:List Value) (k:Nat) (cells:Array Value) (off:Nat),off+k+new.length<=cells.size ->
    ((new.zipIdx k).foldl (λcs (c,j)=>cs.setIfInBounds (off+j) c) cells).toList=splice cells.toList new (off+k)
  | [],k,cells,off,_=>by simp [splice]
  | c::new,k,cells,off,h=>by
    simp only [List.length_cons]at h
    simp only [List.zipIdx_cons,List.foldl_cons]
    rw [yu new (k+1) _ off (by simp;omega)]
    simp only [Array.toList_setIfInBounds]
    apply List.ext_getElem?
    intro i
    have o:(cells.toList.set (off+k) c).length=cells.size:=by simp
    rw [qJ _ _ _ (by rw [o];omega),qJ _ _ _ (by simp;omega)]
    simp only [List.length_cons]
    by_cases h1:i=off+k
    · subst h1
      rw [if_neg (by omega),if_pos (by omega),List.getElem?_set_self (by simp;omega)]
      simp
    · by_cases h2:off+(k+1)<=i/\i<off+(k+1)+new.length
      · rw [if_pos h2,if_pos (by omega),show i-(off+k)=(i-(off+(k+1)))+1 by omega,List.getElem?_cons_succ]
      · rw [if_neg h2,if_neg (by omega),List.getElem?_set_ne (by omega)]
theorem uI (new:Array Value) (cells:Array Value) (off:Nat) :
    (new.zipIdx.foldl (λcs (x:Value×Nat)=>cs.setIfInBounds (off+x.2) x.1) cells)=(new.toList.zipIdx 0).foldl (λcs (x:Value×Nat)=>cs.setIfInBounds (off+x.2) x.1) cells:=by
  rw [<- Array.foldl_toList];congr 1;simp
def wh (G:Gh) (w:World) (us:List Value) (vs:List V):Prop :=
  us.length=vs.length/\∀i (h1:i<us.length) (h2:i<vs.length),RepV G w us[i] vs[i]
theorem wh.splice {us new:List Value} {vs A:List V} (h:wh G w us vs) (F:wh G w new A) (o:Nat) (ho:o+new.length<=us.length) :
    wh G w (Eng.splice us new o) (Eng.splice vs A o):=by
  have B:o+A.length<=vs.length:=by rw [<- F.1,<- h.1];exact ho
  refine⟨by rw [dE _ _ _ ho,dE _ _ _ B,h.1],λi h1 h2 => ?_⟩
  rw [oN _ _ _ ho,oN _ _ _ B]
  by_cases hin:o<=i/\i<o+new.length
  · rw [dif_pos hin,dif_pos (by rw [<- F.1];exact hin)]
    exact F.2 _ _ _
  · rw [dif_neg hin,dif_neg (by rw [<- F.1];exact hin)]
    exact h.2 _ _ _
theorem J8 (A:Nat->Option (Nat×Nat)):∀(parts:List (Nat×Value)) (h:List (Nat×V)) (cells:Array Value) (o B:List V),
    parts.length=h.length->(∀i (h1:i<parts.length) (h2:i<h.length),parts[i].1=h[i].1/\RepV G w parts[i].2 h[i].2) ->
    (∀p∈h,(bB p.2).all kw=true) ->
    wh G w cells.toList o->BA A o h=some B->∃I,Instr.fill A cells parts=some I/\wh G w I.toList B
  | [],[],cells,o,B,_,_,_,hc,hf=>by
    simp only [BA,so_]at hf
    subst hf
    exact⟨cells,rfl,hc⟩
  | [],_::_,_,_,_,hl,_,_,_,_=>by simp at hl
  | _::_,[],_,_,_,hl,_,_,_,_=>by simp at hl
  | (i,u)::parts,(j,x)::h,cells,o,B,hl,N,ho,hc,hf=>by
    have R:=N 0 (by simp) (by simp)
    simp only [List.getElem_cons_zero]at R
    obtain ⟨rfl,Y⟩:=R
    simp only [BA]at hf
    split at hf
    · cases hf
    rename_i off size J
    cases hcnd:(Nat.beq (bB x).length size&&Nat.ble (off+size) o.length)with
    | false=>simp only [hcnd,cond_false]at hf;cases hf
    | true =>
      simp only [hcnd,cond_true]at hf
      simp only [Bool.and_eq_true]at hcnd
      have X:=Nat.eq_of_beq_eq_true hcnd.1
      have e2:=Nat.le_of_ble_eq_true hcnd.2
      obtain ⟨O,c2⟩:=Y.cells (ho (i,x) (by simp))
      have M:u.cells.size=size:=by rw [<- X,<- O];simp
      have W:cells.size=o.length:=by have:=hc.1;simpa using this
      simp only [Instr.fill,J]
      rw [if_neg (by simp [M];omega),uI]
      have F:=yu u.cells.toList 0 cells off (by simp;omega)
      refine J8 A parts h _ (splice o (bB x) off) B (by simpa using hl) (λk Z a2=>N (k+1) (Nat.succ_lt_succ Z) (Nat.succ_lt_succ a2)) (λp L=>ho p (by simp [L])) ?_ hf
      rw [F]
      exact hc.splice ⟨O,c2⟩ off (by simp;omega)
theorem run_build (t:TypeId) (parts:Array (Nat×Value)) {fs:Array Field} (A:P.underlying t=some (.struct fs)) (o:∀f∈fs,(P.info? f.type).isSome=true) {z:Value}
    (B:(P.info? t).bind (·.zero)=some z) (w:World) {h:Array Value}
    (hf:Instr.fill (λi=>(fs.map λf=>(f.offset,((P.info? f.type).map (·.size)).getD 0))[i]?) z.cells parts.toList=some h) :
    (Instr.build t parts).run P w = .ok (.agg h) w:=by
  have hm:(fs.mapM (λ(f:Field)=>do pure (f.offset,<- sizeOf f.type))).run P w = .ok (fs.map λf=>(f.offset,((P.info? f.type).map (·.size)).getD 0)) w:=by
    refine Tt fs _ _ w (λf hf => ?_)
    have:=o f hf
    cases hi:P.info? f.type with
    | none=>simp [hi]at this
    | some i=>simp [sizeOf,typeInfo,hi]
  unfold Instr.build
  simp only [Sem.run_bind,nG B,Result.andThen_ok,bn A,hm]
  simp only [hf,Sem.run_pure]
theorem Qy {t:TypeId} {parts:Array (Nat×Value)} {o:List (Nat×V)} {v:V}
    (hl:parts.toList.length=o.length) (hp:∀i (h1:i<parts.toList.length) (h2:i<o.length),parts.toList[i].1=o[i].1/\RepV G w parts.toList[i].2 o[i].2)
    (ho:∀p∈o,(bB p.2).all kw=true) (hf:Kw P t o=some v) :
    ∃u,(Instr.build t parts).run P w = .ok u w/\RepV G w u v:=by
  unfold Kw at hf
  cases hs:isStruct P t with
  | false =>
    simp only [hs,cond_false]at hf
    unfold arrT at hf
    split at hf
    · rename_i size zc hsz L
      split at hsz
      · rename_i n e R
        simp only [zeroCells,Option.map_eq_some_iff]at L
        obtain ⟨z,L,rfl⟩:=L
        simp only [Option.map_eq_some_iff]at hf
        obtain ⟨A,F,rfl⟩:=hf
        obtain ⟨inf,d,Y,i2,_⟩:=xE hsz
        obtain ⟨B,Z,O⟩:=J8 (G:=G) (w:=w) _ parts.toList o z.cells (z.cells.toList.map sQ) A hl hp ho
          ⟨by simp,λi h1 h2=>by rw [List.getElem_map];exact oo G w _⟩ F
        refine⟨.agg B,?_,?_⟩
        · unfold Instr.build
          simp only [Sem.run_bind,nG L,Result.andThen_ok,bn R]
          have X:(sizeOf e).run P w = .ok size w:=by simp [sizeOf,typeInfo,Y,i2]
          simp only [X,Result.andThen_ok,Z,Sem.run_pure]
        · have:Value.agg B=Value.agg B.toList.toArray:=by simp
          rw [this]
          exact rZ O.1 O.2
      · cases hsz
    · cases hf
  | true =>
    simp only [hs,cond_true]at hf
    unfold isStruct at hs
    split at hs
    · rename_i fs R
      split at hf
      · rename_i zc L
        simp only [zeroCells,Option.map_eq_some_iff]at L
        obtain ⟨z,L,rfl⟩:=L
        simp only [Option.map_eq_some_iff]at hf
        obtain ⟨A,F,rfl⟩:=hf
        have N:∀f∈fs,(P.info? f.type).isSome=true:=by
          intro f hf
          obtain ⟨i,hi,rfl⟩:=Array.getElem_of_mem hf
          exact (Array.all_eq_true.1 hs) i hi
        have J:BA (λi=>(fs.map λf=>(f.offset,((P.info? f.type).map (·.size)).getD 0))[i]?) (z.cells.toList.map sQ) o=some A:=by
          have key:∀(l:List (Nat×V)) (cells:List V) (A:List V),BA (bS P t) cells l=some A ->
              BA (λi=>(fs.map λf=>(f.offset,((P.info? f.type).map (·.size)).getD 0))[i]?) cells l=some A:=by
            intro l
            induction l with
            | nil=>intro cells A h;exact h
            | cons p l ih =>
              intro cells A h
              obtain ⟨i,x⟩:=p
              simp only [BA]at h ⊢
              split at h
              · cases h
              rename_i off size I
              unfold bS zI at I
              simp only [R]at I
              split at I
              · rename_i fd W
                simp only [Option.map_eq_some_iff,Prod.mk.injEq]at I
                obtain ⟨s,hs1,rfl,rfl⟩:=I
                obtain ⟨inf,d,Y,i2,_⟩:=xE hs1
                have M:(fs.map λf=>(f.offset,((P.info? f.type).map (·.size)).getD 0))[i]? = some (fd.offset,s):=by
                  rw [Array.getElem?_map,W];simp [Y,i2]
                simp only [M]
                cases hc:(Nat.beq (bB x).length s&&Nat.ble (fd.offset+s) cells.length)with
                | false=>simp only [hc,cond_false]at h;cases h
                | true=>simp only [hc,cond_true]at h ⊢;exact ih _ _ h
              · cases I
          exact key _ _ _ F
        obtain ⟨B,Z,O⟩:=J8 (G:=G) (w:=w) _ parts.toList o z.cells (z.cells.toList.map sQ) A hl hp ho
          ⟨by simp,λi h1 h2=>by rw [List.getElem_map];exact oo G w _⟩ J
        refine⟨.agg B,run_build t parts R N L w Z,?_⟩
        have:Value.agg B=Value.agg B.toList.toArray:=by simp
        rw [this]
        exact rZ O.1 O.2
      · cases hf
    · cases hs
end
end Go.Eng

/-
  THE ENGINE: addresses of elements and fields, arithmetic and comparisons, lengths, slices of slices.
-/
namespace Go.Eng
set_option linter.unusedSectionVars false
variable [DM]
variable {P:Program}
section
variable {E:Env} {G:Gh} {w:World} {S:Store} {tk:Nat} {U:Nat->Prop} {dst:Option Nat}
theorem RepD.int_inv {I:Nat->Nat->Prop} {u:Value} {k:IntKind} {n:Int} (h:RepD I w u (.int k n)):u = .int k n:=by cases h;rfl
theorem RepD.bool_inv {I:Nat->Nat->Prop} {u:Value} {b:Bool} (h:RepD I w u (.bool b)):u = .bool b:=by cases h;rfl
theorem RepD.str_inv {I:Nat->Nat->Prop} {u:Value} {s:ByteArray} (h:RepD I w u (.str s)):u = .string s:=by cases h;rfl
theorem lS {t e:TypeId} (h:bO P t=some e):P.underlying t=some (.slice e):=by
  unfold bO at h
  split at h
  · rename_i e' o;simp only [so_]at h;subst h;exact o
  · cases h
theorem RepD.sl_len {I:Nat->Nat->Prop} {u:Value} {xs:List (List D)} (h:RepD I w u (.sl xs)):∃a cap,u = .slice a xs.length cap/\xs.length<=cap\/∃a cap,u = .slice a 0 cap/\xs=[]:=by
  cases h with
  | sl0 a cap=>exact⟨none,0,.inr ⟨a,cap,rfl,rfl⟩⟩
  | sl b off cap sz xs us hcap hsz hI hc ho h=>exact⟨_,_,.inl ⟨rfl,hcap⟩⟩
theorem I9 (h:Inv E G w S tk U) {t:TypeId} {u v:Value} {x i:V} {A:Eff} (M:RepV G w u x) (hi:RepV G w v i) (hf:lT P t x i=some A) :
    eZ P E (do pure (.value (<- Instr.indexAt t u v))) dst G w S tk U A:=by
  unfold lT at hf
  split at hf
  · rename_i size k n hsz
    simp only [Option.bind_eq_some_iff]at hsz
    obtain ⟨e,X,hsz⟩:=hsz
    have N:=lS X
    have Y:=hi.d_inv.int_inv
    subst Y
    cases hn:decide (0<=n)with
    | false=>simp only [hn,cond_false]at hf;cases hf
    | true =>
      have F:0<=n:=of_decide_eq_true hn
      simp only [hn,cond_true]at hf
      split at hf
      · rename_i xs
        split at hf
        · rename_i cs W
          cases hb:Nat.beq cs.length size with
          | false=>simp only [hb,cond_false]at hf;cases hf
          | true =>
            simp only [hb,cond_true]at hf
            rw [fV hf]
            obtain ⟨B,rfl⟩:=List.getElem?_eq_some_iff.1 W
            have L:=Nat.eq_of_beq_eq_true hb
            cases M.d_inv with
            | sl0 a cap=>simp at B
            | sl b off cap sz _ us hcap hs hI hc _ hr =>
              have I:sz=size:=by rw [<- hs _ B,L]
              subst I
              refine eZ.still h (u := .pointer (some ⟨b,off+n.toNat*sz,none⟩)) ?_ ?_
              · have h1:(0<=n/\n<(xs.length:Int)):=⟨F,by omega⟩
                simp only [Instr.indexAt,asIntOf,Sem.run_bind,Sem.run_pure,Result.andThen_ok,bn N,h1,run_sizeOf hsz,addr_add,and_self,if_true]
              · exact .d (.ptr _ _ _ (λj=>us n.toNat j) (λj hj=>hI _ j B (by omega)) (λj hj=>hc _ j B (by omega)) (λj hj=>hr _ j B hj))
        · cases hf
      · rename_i n' sz k len
        cases hb:(Nat.ble (n.toNat+1) len&&Nat.beq sz size)with
        | false=>simp only [hb,cond_false]at hf;cases hf
        | true =>
          simp only [hb,cond_true]at hf
          rw [fV hf]
          simp only [Bool.and_eq_true]at hb
          have h1:=Nat.le_of_ble_eq_true hb.1
          have h2:=Nat.eq_of_beq_eq_true hb.2
          subst h2
          cases M with
          | vs0=>omega
          | vs _ _ cap O hc J =>
            rename_i b o
            refine eZ.still h (u := .pointer (some ⟨b,o+k*sz+n.toNat*sz,none⟩)) ?_ ?_
            · have h1:(0<=n/\n<(len:Int)):=⟨F,by omega⟩
              simp only [Instr.indexAt,asIntOf,Sem.run_bind,Sem.run_pure,Result.andThen_ok,bn N,h1,run_sizeOf hsz,addr_add,and_self,if_true]
            · have:o+k*sz+n.toNat*sz=o+(k+n.toNat)*sz+0:=by rw [Nat.add_mul];omega
              rw [this]
              exact .ref _ _ O
      · rename_i sz len
        cases hb:(Nat.ble (n.toNat+1) len&&Nat.beq sz size)with
        | false=>simp only [hb,cond_false]at hf;cases hf
        | true =>
          simp only [hb,cond_true]at hf
          rw [fV hf]
          simp only [Bool.and_eq_true]at hb
          have h1:=Nat.le_of_ble_eq_true hb.1
          have h2:=Nat.eq_of_beq_eq_true hb.2
          subst h2
          cases M.d_inv with
          | wild0=>omega
          | wild b off cap _ _ m ht hm R J =>
            have Z:n.toNat*sz+sz<=len*sz:=by rw [<- Nat.succ_mul];exact Nat.mul_le_mul_right _ h1
            refine eZ.still h (u := .pointer (some ⟨b,off+n.toNat*sz,none⟩)) ?_ (.d (.wildp b _ sz m ht hm (λo a c=>R o (by omega) (by omega)) (by omega)))
            have h1:(0<=n/\n<(len:Int)):=⟨F,by omega⟩
            simp only [Instr.indexAt,asIntOf,Sem.run_bind,Sem.run_pure,Result.andThen_ok,bn N,h1,run_sizeOf hsz,addr_add,and_self,if_true]
      · cases hf
  · cases hf
theorem EX {t:TypeId} {f:Nat} {A:Field} (h:zI P t f=some A):∃fs,P.underlying t=some (.struct fs)/\fs[f]? = some A:=by
  unfold zI at h
  split at h
  · rename_i fs o;exact⟨fs,o,h⟩
  · cases h
theorem I1 (h:Inv E G w S tk U) {t:TypeId} {u:Value} {x:V} {f:Nat} {A:Eff} (L:RepV G w u x) (hf:kL P t x f=some A) :
    eZ P E (do pure (.value (<- Instr.fieldAt t u f))) dst G w S tk U A:=by
  unfold kL at hf
  split at hf
  · rename_i F I
    obtain ⟨fs,O,M⟩:=EX I
    split at hf
    · rename_i s hsz
      have B:∀b o,(Instr.fieldAt t (.pointer (some ⟨b,o,none⟩)) f).run P w = .ok (.pointer (some ⟨b,o+F.offset,none⟩)) w:=by
        intro b o
        simp only [Instr.fieldAt,Sem.run_bind,bn O,Result.andThen_ok,M,Instr.sureAddr,Sem.run_pure,fieldPlace,run_sizeOf hsz,addr_add]
        simp
      split at hf
      · rename_i cs
        cases hb:Nat.ble F.offset cs.length with
        | false=>simp only [hb,cond_false]at hf;cases hf
        | true =>
          simp only [hb,cond_true]at hf
          rw [fV hf]
          have R:=Nat.le_of_ble_eq_true hb
          cases L.d_inv with
          | ptr _ _ _ us hI hc N =>
            refine eZ.still h (B _ _) (.d (.ptr _ _ _ (λj=>us (F.offset+j)) (λj hj => ?_) (λj hj => ?_) (λj hj => ?_)))
            · simp only [List.length_drop]at hj
              rw [Nat.add_assoc];exact hI _ (by omega)
            · simp only [List.length_drop]at hj
              rw [Nat.add_assoc];exact hc _ (by omega)
            · rw [List.getElem_drop];exact N _ (by simp only [List.length_drop]at hj;omega)
      · rename_i n i j
        rw [fV hf]
        obtain ⟨b,o,sz,J,rfl⟩:=L.ref_inv
        refine eZ.still h (B _ _) ?_
        rw [Nat.add_assoc]
        exact .ref i (j+F.offset) J
      · cases hf
    · cases hf
  · cases hf
theorem GU {t:TypeId} {size:Nat} (hsz:szT P t=some size) (w:World) (cs:Array Value) (off:Nat) :
    (part t cs off).run P w=if bW P t then .ok (.agg (cs.extract off (off+size))) w else match cs[off]? with
      | some v => .ok v w
      | none => .halt (.stuck "part: no such cell") w := by
  simp only [part,Sem.run_bind,DW hsz,Result.andThen_ok]
  split
  · simp only [Sem.run_bind,run_sizeOf hsz,Result.andThen_ok,Sem.run_pure]
  · generalize cs[off]? = r
    cases r <;> rfl
theorem CG {t:TypeId} {size:Nat} (hsz:szT P t=some size) (w:World) (arr:List Value) (ds:List D) (off:Nat) (hl:arr.length=ds.length)
    (B:∀i (h1:i<arr.length) (h2:i<ds.length),RepD G.imm w arr[i] ds[i]) {v:V} (h:rdD (bW P t) size (ds.drop off)=some v) :
    ∃u,(part t arr.toArray off).run P w = .ok u w/\RepV G w u v:=by
  rw [GU hsz]
  unfold rdD at h
  cases ha:bW P t with
  | true =>
    simp only [ha,cond_true]at h
    cases hb:Nat.ble size (ds.drop off).length with
    | false=>simp only [hb,cond_false]at h;cases h
    | true =>
      simp only [hb,cond_true,so_]at h
      subst h
      have A:=Nat.le_of_ble_eq_true hb
      simp only [List.length_drop]at A
      refine⟨_,rfl,.d ?_⟩
      have e:arr.toArray.extract off (off+size)=((arr.drop off).take size).toArray:=by
        apply Array.ext'
        simp [List.extract_eq_take_drop]
      rw [e]
      refine .agg _ _ (by simp;omega) (λi h1 h2 => ?_)
      simp only [List.getElem_take,List.getElem_drop]
      simp at h1 h2
      exact B _ (by omega) (by omega)
  | false =>
    simp only [ha,cond_false]at h
    split at h
    · rename_i c rest hc
      simp only [so_]at h
      subst h
      have o:off<ds.length:=by
        rcases Nat.lt_or_ge off ds.length with h|h
        · exact h
        · rw [List.drop_eq_nil_of_le h]at hc;cases hc
      have F:ds[off]=c:=by
        rw [List.drop_eq_getElem_cons o]at hc
        exact (List.cons.inj hc).1
      refine⟨arr[off],by simp [show off<arr.length by omega],.d ?_⟩
      rw [<- F]
      exact B off (by omega) o
    · cases h
theorem SG {t:TypeId} {size:Nat} (hsz:szT P t=some size) (w:World) (arr:List Value) (ds:List V) (off:Nat) (hl:arr.length=ds.length)
    (B:∀i (h1:i<arr.length) (h2:i<ds.length),RepV G w arr[i] ds[i]) {v:V} (h:rdV (bW P t) size (ds.drop off)=some v) :
    ∃u,(part t arr.toArray off).run P w = .ok u w/\RepV G w u v:=by
  rw [GU hsz]
  unfold rdV at h
  cases ha:bW P t with
  | true =>
    simp only [ha,cond_true]at h
    cases hb:Nat.ble size (ds.drop off).length with
    | false=>simp only [hb,cond_false]at h;cases h
    | true =>
      simp only [hb,cond_true,so_]at h
      subst h
      have A:=Nat.le_of_ble_eq_true hb
      simp only [List.length_drop]at A
      refine⟨_,rfl,?_⟩
      have e:arr.toArray.extract off (off+size)=((arr.drop off).take size).toArray:=by
        apply Array.ext'
        simp [List.extract_eq_take_drop]
      rw [e]
      refine rZ (by simp;omega) (λi h1 h2 => ?_)
      simp only [List.getElem_take,List.getElem_drop]
      simp at h1 h2
      exact B _ (by omega) (by omega)
  | false =>
    simp only [ha,cond_false]at h
    split at h
    · rename_i c rest hc
      simp only [so_]at h
      subst h
      have o:off<ds.length:=by
        rcases Nat.lt_or_ge off ds.length with h|h
        · exact h
        · rw [List.drop_eq_nil_of_le h]at hc;cases hc
      have F:ds[off]=c:=by
        rw [List.drop_eq_getElem_cons o]at hc
        exact (List.cons.inj hc).1
      refine⟨arr[off],by simp [show off<arr.length by omega],?_⟩
      rw [<- F]
      exact B off (by omega) o
    · cases h
theorem Qn {t:TypeId} {u:Value} {x v:V} {f:Nat} (I:RepV G w u x) (hf:K8 P t x f=some v) :
    ∃r,(Instr.field t u f).run P w = .ok r w/\RepV G w r v:=by
  unfold K8 at hf
  split at hf
  · rename_i A h
    obtain ⟨fs,F,B⟩:=EX h
    split at hf
    · rename_i size hsz
      split at hf
      · rename_i ds
        cases I.d_inv with
        | agg arr _ hl o =>
          obtain ⟨r,h1,h2⟩:=CG hsz w arr ds A.offset hl o hf
          exact⟨r,by simpa [Instr.field,bn F,B,asAgg]using h1,h2⟩
      · rename_i vs
        cases I with
        | agg arr _ hl o =>
          obtain ⟨r,h1,h2⟩:=SG hsz w arr vs A.offset hl o hf
          exact⟨r,by simpa [Instr.field,bn F,B,asAgg]using h1,h2⟩
      · cases hf
    · cases hf
  · cases hf
theorem QR {op:BinOp} (hs:IR op=false) {k:IntKind} {a b:Int} {x:D} (hf:LQ op k a b=some x) (t:TypeId) (w:World) :
    ∃r,(binOp op t (.int k a) (.int k b)).run P w = .ok r w/\∀I,RepD I w r x:=by
  have o:∀{c:D},(if b=0 then Option.none else some c)=some x->b≠0/\c=x:=by
    intro c h
    by_cases hb:b=0
    · rw [if_pos hb]at h;cases h
    · rw [if_neg hb]at h;exact⟨hb,Option.some.inj h⟩
  cases op with
  | shl=>simp [IR]at hs
  | shr=>simp [IR]at hs
  | quo =>
    obtain ⟨hb,rfl⟩:=o hf
    exact⟨.int k (k.wrap (a.tdiv b)),by simp [binOp,Op.intDiv,hb],λI => .int _ _⟩
  | rem =>
    obtain ⟨hb,rfl⟩:=o hf
    exact⟨.int k (a.tmod b),by simp [binOp,Op.intDiv,hb],λI => .int _ _⟩
  | andNot=>cases hf
  | _ =>
    simp only [LQ,so_]at hf
    subst hf
    exact⟨_,by simp [binOp,Op.intArith,Op.intCmp,Op.intBits];rfl,λI=>by first | exact .int _ _ | exact .bool _⟩
theorem shOp_ok {op:BinOp} (h:IR op=true) {k k':IntKind} {a b:Int} {x:D} (hf:RU op k a b=some x) (t:TypeId) (w:World) :
    ∃r,(binOp op t (.int k a) (.int k' b)).run P w = .ok r w/\∀I,RepD I w r x:=by
  unfold RU at hf
  split at hf
  · cases hf
  rename_i hb
  split at hf
  · simp only [so_]at hf;subst hf
    exact⟨.int k (k.wrap (a*2 ^ (min b.toNat k.bits))),by simp [binOp,Op.shift,hb],λI => .int _ _⟩
  · simp only [so_]at hf;subst hf
    exact⟨.int k (a.fdiv (2 ^ (min b.toNat k.bits))),by simp [binOp,Op.shift,hb],λI => .int _ _⟩
  · cases hf
theorem Tz {op:BinOp} {a b:ByteArray} {x:D} (hf:Pv op a b=some x) (t:TypeId) (w:World) :
    ∃r,(binOp op t (.string a) (.string b)).run P w = .ok r w/\∀I,RepD I w r x:=by
  have hb:∀op,binOp op t (.string a) (.string b)=Op.stringOp op a b:=by intro op;cases op <;> simp [binOp]
  rw [hb]
  cases op <;> simp only [Pv,so_]at hf <;>
    first
    | (subst hf;exact⟨_,rfl,λI => .bool _⟩)
    | (split at hf
       · cases hf
       · rename_i hb
         simp only [so_]at hf
         subst hf
         exact⟨.string (a++b),by simp only [Op.stringOp];rw [if_neg hb];rfl,λI => .str _⟩)
    | cases hf
theorem qf (op:BinOp) (t:TypeId) (x y:Operand) (a b:Value) (h:∀xs ys,¬(a = .agg xs/\b = .agg ys)) (o:¬(a = .nilIface/\b = .nilIface)) (w:World) :
    (eqGuard op t x y a b).run P w = .ok () w:=by
  unfold eqGuard
  split
  · rw [if_neg (by decide)]
    split
    · exact absurd ⟨rfl,rfl⟩ o
    · exact absurd ⟨rfl,rfl⟩ (h _ _)
    · rfl
  · rw [if_neg (by decide)]
    split
    · exact absurd ⟨rfl,rfl⟩ o
    · exact absurd ⟨rfl,rfl⟩ (h _ _)
    · rfl
  · rw [if_pos (by rfl)];rfl
theorem binF_ok {op:BinOp} {t:TypeId} {ox oy:Operand} {u u':Value} {x y v:V} (o:RepV G w u x) (I:RepV G w u' y) (hf:Lp op x y=some v) :
    ∃r,(do eqGuard op t ox oy u u';binOp op t u u').run P w = .ok r w/\RepV G w r v:=by
  unfold Lp at hf
  split at hf
  · rename_i k a k' b
    have B:=o.d_inv.int_inv
    have F:=I.d_inv.int_inv
    subst B F
    have A:=qf (P:=P) op t ox oy (.int k a) (.int k' b) (λ_ _ h=>by cases h.1) (λh=>by cases h.1) w
    cases hs:IR op with
    | true =>
      simp only [hs,cond_true,Option.map_eq_some_iff]at hf
      obtain ⟨x,o,rfl⟩:=hf
      obtain ⟨r,h1,h2⟩:=shOp_ok (P:=P) (k':=k') hs o t w
      exact⟨r,by simp [A,h1],.d (h2 _)⟩
    | false =>
      simp only [hs,cond_false]at hf
      split at hf
      · rename_i J
        subst J
        simp only [Option.map_eq_some_iff]at hf
        obtain ⟨x,o,rfl⟩:=hf
        obtain ⟨r,h1,h2⟩:=QR (P:=P) hs o t w
        exact⟨r,by simp [A,h1],.d (h2 _)⟩
      · cases hf
  · rename_i a b
    have B:=o.d_inv.str_inv
    have F:=I.d_inv.str_inv
    subst B F
    have A:=qf (P:=P) op t ox oy (.string a) (.string b) (λ_ _ h=>by cases h.1) (λh=>by cases h.1) w
    simp only [Option.map_eq_some_iff]at hf
    obtain ⟨x,o,rfl⟩:=hf
    obtain ⟨r,h1,h2⟩:=Tz (P:=P) o t w
    exact⟨r,by simp [A,h1],.d (h2 _)⟩
  · cases hf
theorem unF_ok {op:UnOp} {u:Value} {x v:V} (h:RepV G w u x) (hf:unF op x=some v):∃r,(Op.unary op u).run P w = .ok r w/\RepV G w r v:=by
  unfold unF at hf
  split at hf
  · simp only [so_]at hf;subst hf
    rw [h.d_inv.int_inv]
    exact⟨_,rfl,.d (.int _ _)⟩
  · simp only [so_]at hf;subst hf
    rw [h.d_inv.bool_inv]
    exact⟨_,rfl,.d (.bool _)⟩
  · cases hf
end
end Go.Eng

/-
  THE ENGINE: comparisons of structs, lengths, slices of slices, slice literals, make.
-/
namespace Go.Eng
set_option linter.unusedSectionVars false
variable [DM]
variable {P:Program}
section
variable {E:Env} {G:Gh} {w:World} {S:Store} {tk:Nat} {U:Nat->Prop} {dst:Option Nat}
theorem EY (n:Nat) (W:∀(t:TypeId) (x y:D) (u v:Value) (b:Bool) (m:Nat),n<=m->RepD G.imm w u x->RepD G.imm w v y->eqD P n t x y=some b->(Op.equalIn m t u v).run P w = .ok b w)
  (m:Nat) (hm:n<=m) (arr o:List Value) (xs ys:List D) (M:RepD G.imm w (.agg arr.toArray) (.agg xs)) (O:RepD G.imm w (.agg o.toArray) (.agg ys)) :
  ∀(fs:List Field) (b:Bool),fs.foldr (λf L =>
    match szT P f.type,L with
    | some size,some r =>
     match rdD (bW P f.type) size (xs.drop f.offset),rdD (bW P f.type) size (ys.drop f.offset)with
     | some (.d a), some (.d b) => if f.name = "_" then some r else (eqD P n f.type a b).map (· && r)
     | _,_=>Option.none
    | _,_=>Option.none) (some true)=some b->(Op.eqFields m arr.toArray o.toArray fs).run P w = .ok b w
 | [],b,h=>by
  simp only [List.foldr_nil,so_]at h
  subst h;rfl
 | f::fs,b,h=>by
  simp only [List.foldr_cons]at h
  generalize J:(fs.foldr _ (some true))=L at h
  split at h
  ·rename_i size r hsz
   split at h
   ·rename_i a c Z hc
    have B:=EY n W m hm arr o xs ys M O fs r J
    have R:arr.length=xs.length/\∀i (h1:i<arr.length) (h2:i<xs.length),RepD G.imm w arr[i] xs[i]:=by
     generalize I:Value.agg arr.toArray=A at M
     cases M with
     | agg F _ hl N =>
      simp only [Value.agg.injEq]at I
      have:arr=F:=by simpa using congrArg Array.toList I
      subst this;exact⟨hl,N⟩
    have X:o.length=ys.length/\∀i (h1:i<o.length) (h2:i<ys.length),RepD G.imm w o[i] ys[i]:=by
     generalize I:Value.agg o.toArray=A at O
     cases O with
     | agg F _ hl N =>
      simp only [Value.agg.injEq]at I
      have:o=F:=by simpa using congrArg Array.toList I
      subst this;exact⟨hl,N⟩
    obtain ⟨u1,p1,q1⟩:=CG (G:=G) hsz w arr xs f.offset R.1 R.2 Z
    obtain ⟨u2,p2,q2⟩:=CG (G:=G) hsz w o ys f.offset X.1 X.2 hc
    by_cases hn : f.name = "_"
    ·rw [if_pos hn]at h
     simp only [so_]at h
     subst h
     simp only [Op.eqFields,hn,ne_eq,not_true_eq_false,if_false]
     exact B
    ·rw [if_neg hn]at h
     simp only [Option.map_eq_some_iff]at h
     obtain ⟨e,Y,rfl⟩:=h
     have h3:=W f.type a c u1 u2 e m hm q1.d_inv q2.d_inv Y
     simp only [Op.eqFields,ne_eq,hn,not_false_eq_true,if_true,Sem.run_bind,p1,p2,Result.andThen_ok,h3]
     cases e
     ·simp
     ·simpa using B
   ·cases h
  ·cases h
theorem Ko:∀(n:Nat) (t:TypeId) (x y:D) (u v:Value) (b:Bool) (m:Nat),n<=m->RepD G.imm w u x->RepD G.imm w v y->eqD P n t x y=some b ->
  (Op.equalIn m t u v).run P w = .ok b w
 | 0,_,_,_,_,_,_,_,_,_,_,h=>by simp [eqD]at h
 | n+1,t,x,y,u,v,b,m,hm,F,I,h=>by
  obtain ⟨m,rfl⟩:∃O,m=O+1:=⟨m-1,by omega⟩
  simp only [eqD]at h
  split at h
  ·rename_i a c o
   simp only [so_]at h;subst h
   rw [F.bool_inv,I.bool_inv]
   simp [Op.equalIn,bn o]
  ·rename_i W k a k' c o
   split at h
   ·rename_i N
    subst N
    simp only [so_]at h;subst h
    rw [F.int_inv,I.int_inv]
    simp [Op.equalIn,bn o]
   ·cases h
  ·rename_i a c o
   simp only [so_]at h;subst h
   rw [F.str_inv,I.str_inv]
   exact run_equalIn_string w m t a c o
  ·rename_i fs xs ys o
   cases hp:P.stoodInHeld t with
   | true=>simp only [hp,cond_true]at h;cases h
   | false =>
    simp only [hp,cond_false]at h
    have B:P.fieldsOf t=fs:=by simp [Program.fieldsOf,o]
    have M:=Ko n
    cases F with
    | agg arr _ hl R =>
     cases I with
     | agg A _ L J =>
      rw [run_equalIn_struct w m t arr.toArray A.toArray (by rw [B];exact o) hp,B]
      exact EY n M m (by omega) arr A xs ys (.agg arr xs hl R) (.agg A ys L J) fs.toList b h
  ·cases h
theorem Sl {op:BinOp} {t:TypeId} {ox oy:Operand} {u u':Value} {x y v:V} (L:RepV G w u x) (I:RepV G w u' y) (hf:uL P op t x y=some v) :
  ∃r,(do eqGuard op t ox oy u u';binOp op t u u').run P w = .ok r w/\RepV G w r v:=by
 unfold uL at hf
 split at hf
 ·rename_i xs ys
  cases B:P.eqGuardType P.depth t with
  | true=>simp only [B,cond_true]at hf;cases hf
  | false =>
   simp only [B,cond_false]at hf
   have o:=L.d_inv
   have A:=I.d_inv
   obtain ⟨arr,rfl⟩:∃arr,u = .agg arr:=by cases o with|agg arr _ _ _=>exact⟨_,rfl⟩
   obtain ⟨M,rfl⟩:∃arr,u' = .agg arr:=by cases A with|agg arr _ _ _=>exact⟨_,rfl⟩
   have F:=run_eqGuard_agg w op t ox oy arr M B
   split at hf
   ·simp only [Option.map_eq_some_iff]at hf
    obtain ⟨b,hb,rfl⟩:=hf
    have:=Ko 8 t _ _ _ _ b 10000 (by omega) o A hb
    exact⟨.bool b,by simp only [Sem.run_bind,F,Result.andThen_ok,run_eql_struct,this],.d (.bool b)⟩
   ·simp only [Option.map_eq_some_iff]at hf
    obtain ⟨b,hb,rfl⟩:=hf
    have:=Ko 8 t _ _ _ _ b 10000 (by omega) o A hb
    exact⟨.bool !b,by simp only [Sem.run_bind,F,Result.andThen_ok,run_neq_struct,this],.d (.bool _)⟩
   ·cases hf
 ·rename_i a b
  rw [L.d_inv.bool_inv,I.d_inv.bool_inv]
  have B:=qf (P:=P) op t ox oy (.bool a) (.bool b) (λ_ _ h=>by cases h.1) (λh=>by cases h.1) w
  split at hf
  ·rename_i J
   simp only [so_]at hf;subst hf
   exact⟨.bool (a==b),by simp only [Sem.run_bind,B,Result.andThen_ok];simp [binOp,Op.equal,Op.maxDepth,run_equalIn_bool' w 9999 t a b J],.d (.bool _)⟩
  ·rename_i J
   simp only [so_]at hf;subst hf
   exact⟨.bool (!(a==b)),by simp only [Sem.run_bind,B,Result.andThen_ok];simp [binOp,Op.equal,Op.maxDepth,run_equalIn_bool' w 9999 t a b J],.d (.bool _)⟩
  ·cases hf
 ·exact binF_ok L I hf
theorem xB (w:World) (d:Nat) (t:TypeId) {ms} (h:P.underlying t=some (.interface ms)):(Op.equalIn (d+1) t .nilIface .nilIface).run P w = .ok true w:=by
 simp [Op.equalIn,run_underlying h]
theorem Jc {u:Value} {x:V} {b:Bool} (o:RepV G w u x) (h:Oe x=some b):∃p,u = .pointer p/\p.isNone=b:=by
 unfold Oe at h
 split at h
 ·simp only [so_]at h;subst h
  cases o with
  | ref=>exact⟨_,rfl,rfl⟩
 ·simp only [so_]at h;subst h
  cases o.d_inv with
  | ptr=>exact⟨_,rfl,rfl⟩
 ·simp only [so_]at h;subst h
  cases o.d_inv with
  | nilp=>exact⟨_,rfl,rfl⟩
 ·cases h
theorem ptrF_ok {op:BinOp} {t:TypeId} {ox oy:Operand} {u u':Value} {x y v:V} (L:RepV G w u x) (I:RepV G w u' y) (hf:ptrF P op t x y=some v) :
  ∃r,(do eqGuard op t ox oy u u';binOp op t u u').run P w = .ok r w/\RepV G w r v:=by
 unfold ptrF at hf
 split at hf
 ·rename_i b hb
  obtain ⟨p,rfl,rfl⟩:=Jc L hb
  obtain ⟨J,rfl,B⟩:=Jc I (b:=true) rfl
  cases J with
  | some a=>cases B
  | none =>
  have F:=qf (P:=P) op t ox oy (.pointer p) (.pointer none) (λ_ _ h=>by cases h.1) (λh=>by cases h.1) w
  split at hf
  ·rename_i e A
   have o:P.underlying t=some (.pointer (P.pointee t)):=by rw [A];simp only [Program.pointee,A]
   simp only [so_]at hf;subst hf
   exact⟨_,by simp only [Sem.run_bind,F,Result.andThen_ok,run_eql_pointer_nil w t p o],.d (.bool _)⟩
  ·rename_i e A
   have o:P.underlying t=some (.pointer (P.pointee t)):=by rw [A];simp only [Program.pointee,A]
   simp only [so_]at hf;subst hf
   exact⟨_,by simp only [Sem.run_bind,F,Result.andThen_ok,run_neq_pointer_nil w t p o],.d (.bool _)⟩
  ·cases hf
 ·cases hf
theorem nilF_ok {op:BinOp} {t:TypeId} {ox oy:Operand} {u u':Value} {x y v:V} (F:RepV G w u x) (A:RepV G w u' y) (hf:nilF P op t ox oy x y=some v) :
  ∃r,(do eqGuard op t ox oy u u';binOp op t u u').run P w = .ok r w/\RepV G w r v:=by
 unfold nilF at hf
 split at hf
 ·cases F
  cases A
  have hc:(Jn ox||Jn oy)=true:=by
   cases h:(Jn ox||Jn oy)with
   | true=>rfl
   | false=>rw [h]at hf;cases hf
  rw [hc,cond_true]at hf
  have B:(op matches .eql | .neq)=true->(eqGuard op t ox oy .nilIface .nilIface).run P w = .ok () w:=λho=>by
   cases op <;> first | (cases ho;done) | (cases ox <;> cases oy <;> first | rfl | (cases hc;done))
  split at hf
  ·rename_i ms o _
   simp only [so_]at hf;subst hf
   refine⟨.bool true,?_,.d (.bool _)⟩
   simp only [Sem.run_bind,B rfl,Result.andThen_ok]
   simp [binOp,Op.equal,Op.maxDepth,xB w 9999 t o]
  ·rename_i ms o _
   simp only [so_]at hf;subst hf
   refine⟨.bool false,?_,.d (.bool _)⟩
   simp only [Sem.run_bind,B rfl,Result.andThen_ok]
   simp [binOp,Op.equal,Op.maxDepth,xB w 9999 t o]
  ·cases hf
 ·exact ptrF_ok F A hf
theorem Rs {op:BinOp} {t:TypeId} {ox oy:Operand} {u u':Value} {x y v:V} (o:RepV G w u x) (h:RepV G w u' y) (hf:Jf P op t ox oy x y=some v) :
  ∃r,(do eqGuard op t ox oy u u';binOp op t u u').run P w = .ok r w/\RepV G w r v:=by
 unfold Jf at hf
 split at hf
 ·rename_i v' A
  simp only [so_]at hf;subst hf
  exact Sl o h A
 ·exact nilF_ok o h hf
theorem PN {t:TypeId} {u u':Value} {x i v:V} (B:RepV G w u x) (hi:RepV G w u' i) (hf:zA P t x i=some v) :
  ∃r,(Instr.index t u u').run P w = .ok r w/\RepV G w r v:=by
 unfold zA at hf
 split at hf
 ·rename_i s k n o
  rw [B.d_inv.str_inv,hi.d_inv.int_inv]
  cases hn:decide (0<=n)with
  | false=>simp only [hn,cond_false]at hf;cases hf
  | true =>
   have A:=of_decide_eq_true hn
   simp only [hn,cond_true,Option.map_eq_some_iff]at hf
   obtain ⟨b,hb,rfl⟩:=hf
   exact⟨_,by simp only [Instr.index,asIntOf,Sem.run_bind,Sem.run_pure,Result.andThen_ok,bn o,A,if_true,hb],.d (.int _ _)⟩
 ·rename_i n e ds k m o
  split at hf
  ·rename_i size hsz
   cases hc:(decide (0<=m)&&Nat.blt m.toNat n)with
   | false=>simp only [hc,cond_false]at hf;cases hf
   | true =>
    simp only [hc,cond_true]at hf
    simp only [Bool.and_eq_true,decide_eq_true_eq,Nat.blt_eq]at hc
    rw [hi.d_inv.int_inv]
    cases B.d_inv with
    | agg arr _ hl J =>
     obtain ⟨r,h1,h2⟩:=CG hsz w arr ds (m.toNat*size) hl J hf
     obtain ⟨I,d,F,i2,_⟩:=xE hsz
     have h:(sizeOf e).run P w = .ok size w:=by simp [sizeOf,typeInfo,F,i2]
     refine⟨r,?_,h2⟩
     simp only [Instr.index,asIntOf,Sem.run_bind,Sem.run_pure,Result.andThen_ok,bn o]
     rw [if_pos ⟨hc.1,by omega⟩]
     simp only [Sem.run_bind,h,Result.andThen_ok]
     exact h1
  ·cases hf
 ·cases hf
theorem Lc {u:Value} {x v:V} {i:Nat} (h:RepV G w u x) (hf:Db x i=some v):∃r,(Instr.extract u i).run P w = .ok r w/\RepV G w r v:=by
 unfold Db at hf
 split at hf
 ·rename_i vs
  obtain ⟨h1,rfl⟩:=List.getElem?_eq_some_iff.1 hf
  cases h with
  | tup arr _ hl o=>exact⟨arr[i],by simp [Instr.extract,show i<arr.length by omega],o i (by omega) h1⟩
 ·cases hf
theorem Kk {u:Value} {x v:V} (h:RepV G w u x) (hf:Ay x=some v) (o:Oper) (ox:Operand) (ρ:Operand->Value) (ho:o.op = .nilCheck ox) (A:ρ ox=u) :
  (execOp ρ o).run P w = .ok (.value u) w/\RepV G w u v:=by
 unfold Ay at hf
 split at hf
 ·simp only [so_]at hf;subst hf
  obtain ⟨b,B,sz,h1,rfl⟩:=h.ref_inv
  exact⟨by simp [execOp,ho,A],h⟩
 ·simp only [so_]at hf;subst hf
  refine⟨?_,h⟩
  cases h.d_inv with
  | ptr=>simp [execOp,ho,A]
 ·simp only [so_]at hf;subst hf
  refine⟨?_,h⟩
  cases h with
  | fn=>simp [execOp,ho,A]
 ·cases hf
theorem Ro {s t:TypeId} {u:Value} {x v:V} (h:RepV G w u x) (hf:Ja P s t x=some v):∃r,(convert s t u).run P w = .ok r w/\RepV G w r v:=by
 unfold Ja at hf
 split at hf
 ·rename_i d k k' n hs ht
  simp only [so_]at hf;subst hf
  rw [h.d_inv.int_inv]
  refine⟨.int k (k.wrap n),?_,.d (.int _ _)⟩
  simp only [convert,Sem.run_bind,bn hs,bn ht,Result.andThen_ok]
  cases d <;> rfl
 ·rename_i d o hs ht
  simp only [so_]at hf;subst hf
  rw [h.d_inv.str_inv]
  refine⟨.string o,?_,.d (.str _)⟩
  simp only [convert,Sem.run_bind,bn hs,bn ht,Result.andThen_ok]
  cases d <;> rfl
 ·rename_i d k' n hs ht
  simp only [so_]at hf;subst hf
  rw [h.d_inv.int_inv]
  refine⟨.string (Utf8.encode n),?_,.d (.str _)⟩
  simp only [convert,Sem.run_bind,bn hs,bn ht,Result.andThen_ok]
  rfl
 ·cases hf
theorem lenF_ok {t ty:TypeId} {u:Value} {x v:V} (o:RepV G w u x) (hf:EC P t x=some v):∃r,(Builtin.len_ #[t] ty #[u]).run P w = .ok r w/\RepV G w r v:=by
 unfold EC at hf
 split at hf
 ·rename_i s h
  simp only [so_]at hf;subst hf
  rw [o.d_inv.str_inv]
  exact⟨.int .i64 s.size,by simp [Builtin.len_,bn h,goInt],.d (.int _ _)⟩
 ·rename_i e xs h
  simp only [so_]at hf;subst hf
  rcases o.d_inv.sl_len with⟨a,cap,⟨rfl,_⟩|⟨B,A,rfl,rfl⟩⟩
  ·exact⟨.int .i64 xs.length,by simp [Builtin.len_,bn h,goInt],.d (.int _ _)⟩
  ·exact⟨.int .i64 0,by simp [Builtin.len_,bn h,goInt],.d (.int _ _)⟩
 ·rename_i e h
  simp only [so_]at hf;subst hf
  cases o with
  | nil a=>exact⟨.int .i64 0,by simp [Builtin.len_,bn h,goInt],.d (.int _ _)⟩
 ·rename_i e n sz k len h
  simp only [so_]at hf;subst hf
  cases o with
  | vs0=>exact⟨.int .i64 0,by simp [Builtin.len_,bn h,goInt],.d (.int _ _)⟩
  | vs=>exact⟨.int .i64 len,by simp [Builtin.len_,bn h,goInt],.d (.int _ _)⟩
 ·rename_i e sz len h
  simp only [so_]at hf;subst hf
  cases o.d_inv with
  | wild0=>exact⟨.int .i64 0,by simp [Builtin.len_,bn h,goInt],.d (.int _ _)⟩
  | wild=>exact⟨.int .i64 len,by simp [Builtin.len_,bn h,goInt],.d (.int _ _)⟩
 ·cases hf
theorem Kc {y:Nat} {n:Int} {k:IntKind} (o:0<=n) (h1:n<=y) (h:BoundsCode) (w:World):(Instr.sliceBound (.int k n) y h).run P w = .ok n.toNat w:=by
 simp [Instr.sliceBound,asIntOf,o,h1]
def zq (G:Gh) (w:World):Option Value->Option V->Prop
 | none,none=>True
 | some u,some v=>RepV G w u v
 | _,_=>False
theorem D7 {d l:Nat} {u:Option Value} {v:Option V} (h:zq G w u v) (hf:si d v=some l) :
  (u=none/\v=none/\l=d)\/∃k n,u=some (.int k n)/\0<=n/\l=n.toNat:=by
 unfold si at hf
 split at hf
 ·simp only [so_]at hf
  cases u with
  | none=>exact .inl ⟨rfl,rfl,hf.symm⟩
  | some u=>exact h.elim
 ·rename_i k n
  cases u with
  | none=>exact h.elim
  | some u =>
   have:=RepV.d_inv h |>.int_inv
   subst this
   cases hn:decide (0<=n)with
   | false=>simp only [hn,cond_false]at hf;cases hf
   | true =>
    simp only [hn,cond_true,so_]at hf
    exact .inr ⟨k,n,rfl,of_decide_eq_true hn,hf.symm⟩
 ·cases hf
theorem qA {isSlice:Bool} {len cap l h:Nat} {L hi:Option Value} {A B:Option V} (J:zq G w L A) (O:zq G w hi B)
  (hl:si 0 A=some l) (W:si len B=some h) (M:l<=h) (R:h<=cap) (F:len<=cap) :
  (Instr.sliceBounds isSlice len cap L hi none).run P w = .ok (l,h,cap) w:=by
 unfold Instr.sliceBounds
 rcases D7 O W with⟨rfl,_,rfl⟩|⟨k,n,rfl,N,rfl⟩
 ·rcases D7 J hl with⟨rfl,_,rfl⟩|⟨k',I,rfl,o,rfl⟩
  ·simp
  ·have e':=Kc (P:=P) (k:=k') o (show I<=(h:Int) by omega)
   simp [e']
 ·have e:=Kc (P:=P) (k:=k) N (show n<=(cap:Int) by omega)
  rcases D7 J hl with⟨rfl,_,rfl⟩|⟨k',I,rfl,o,rfl⟩
  ·simp [e]
  ·have e':=Kc (P:=P) (k:=k') o (show I<=(n.toNat:Int) by omega)
   simp [e,e']
end
end Go.Eng

/-
  THE ENGINE: slices of slices, make, slice literals, append.
-/
namespace Go.Eng
set_option linter.unusedSectionVars false
variable [DM]
variable {P:Program}
section
variable {E:Env} {G:Gh} {w:World} {S:Store} {tk:Nat} {U:Nat->Prop} {dst:Option Nat}
theorem FU {u:Option Value} {v:Option V} (h:zq G w u v) (o:is0 v=true):∃k,u=some (.int k 0):=by
 unfold is0 at o
 split at o
 ·rename_i k n
  have A:=of_decide_eq_true o
  subst A
  cases u with
  | none=>exact h.elim
  | some u=>exact⟨k,by rw [(RepV.d_inv h).int_inv]⟩
 ·cases o
theorem N8 {I hi mx:Option Value} {A B F:Option V} (J:zq G w I A) (M:zq G w hi B) (L:zq G w mx F) (h:zT A B F=true)
  (isSlice:Bool) (len cap:Nat):(Instr.sliceBounds isSlice len cap I hi mx).run P w = .ok (0,0,0) w:=by
 simp only [zT,Bool.and_eq_true]at h
 obtain ⟨h1,h2,N⟩:=h
 obtain ⟨k,rfl⟩:=FU M h2
 obtain ⟨k',rfl⟩:=FU L N
 have e:∀(k:IntKind) (y:Nat) o,(Instr.sliceBound (.int k 0) y o).run P w = .ok 0 w:=λk y o=>by
  simp [Instr.sliceBound,asIntOf]
 cases A with
 | none =>
  cases I with
  | none=>simp [Instr.sliceBounds,e]
  | some u=>exact J.elim
 | some v =>
  obtain ⟨O,rfl⟩:=FU J h1
  simp [Instr.sliceBounds,e]
theorem Pq {u:Option Value} {v:Option V} {n:Nat} (h:zq G w u v) (o:isN v n=true):∃k,u=some (.int k (n:Int)):=by
 unfold isN at o
 split at o
 ·rename_i k m
  have A:=of_decide_eq_true o
  subst A
  cases u with
  | none=>exact h.elim
  | some u=>exact⟨k,by rw [(RepV.d_inv h).int_inv]⟩
 ·cases o
theorem JL {I hi mx:Option Value} {A B F:Option V} {n:Nat} (J:zq G w I A) (M:zq G w hi B) (L:zq G w mx F) (h:OL A B F n=true)
  (isSlice:Bool) (len cap:Nat) (hc:n<=cap):(Instr.sliceBounds isSlice len cap I hi mx).run P w = .ok (0,n,n) w:=by
 simp only [OL,Bool.and_eq_true]at h
 obtain ⟨h1,h2,N⟩:=h
 obtain ⟨k,rfl⟩:=Pq M h2
 obtain ⟨k',rfl⟩:=Pq L N
 have e:∀(k:IntKind) (y:Nat) o,n<=y->(Instr.sliceBound (.int k (n:Int)) y o).run P w = .ok n w:=λk y o W=>by
  simp [Instr.sliceBound,asIntOf];omega
 have O:∀(k:IntKind) (y:Nat) o,(Instr.sliceBound (.int k 0) y o).run P w = .ok 0 w:=λk y o=>by
  simp [Instr.sliceBound,asIntOf]
 cases A with
 | none =>
  cases I with
  | none=>simp [Instr.sliceBounds,e _ _ _ hc,e _ _ _ (Nat.le_refl n)]
  | some u=>exact J.elim
 | some v =>
  obtain ⟨R,rfl⟩:=FU J h1
  simp [Instr.sliceBounds,e _ _ _ hc,e _ _ _ (Nat.le_refl n),O]
theorem qc {t e:TypeId} (o:P.underlying t=some (.slice e)) (u:Value) (h hi mx:Option Value) (w:World):(Instr.sliceAt t u h hi mx).run P w=(Instr.slice t u h hi mx).run P w:=by
 simp only [Instr.sliceAt,Sem.run_bind,bn o,Result.andThen_ok]
theorem P7 {t:TypeId} {u:Value} {x v:V} {lo hi mx:Option Value} {I J vmx:Option V} (W:RepV G w u x) (N:zq G w lo I) (R:zq G w hi J) (rm:zq G w mx vmx)
  (hf:oq P t x I J vmx=some v):∃r,(Instr.sliceAt t u lo hi mx).run P w = .ok r w/\RepV G w r v:=by
 unfold oq at hf
 split at hf
 ·have hm:mx=none:=by
   cases mx with
   | none=>rfl
   | some _=>exact rm.elim
  subst hm
  split at hf
  ·rename_i s A
   split at hf
   ·rename_i l h hl O
    split at hf
    ·rename_i hc
     simp only [so_]at hf;subst hf
     rw [W.d_inv.str_inv]
     have hb:=qA (P:=P) (isSlice:=false) N R hl O hc.1 hc.2 (Nat.le_refl _)
     refine⟨.string (s.extract l h),?_,.d (.str _)⟩
     simp only [Instr.sliceAt,Sem.run_bind,bn A,Result.andThen_ok,Instr.slice]
     simp only [Option.isSome_none,Bool.false_eq_true,if_false,Sem.run_bind,Sem.run_pure,Result.andThen_ok,hb]
    ·cases hf
   ·cases hf
  ·rename_i e xs A
   split at hf
   ·rename_i size l h hsz hl O
    split at hf
    ·rename_i hc
     simp only [so_]at hf;subst hf
     rw [qc A]
     have B:((xs.take h).drop l).length=h-l:=by simp;omega
     have X:∀i (hi:i<xs.length),xs[i].length=size:=λi hi=>Nat.eq_of_beq_eq_true (List.all_eq_true.1 hc.2.2 _ (List.getElem_mem hi))
     cases W.d_inv with
     | sl0 a cap =>
      have Z:h=0:=by simpa using hc.2.1
      have Y:l=0:=by omega
      subst Z Y
      have hb:=qA (P:=P) (isSlice:=true) (len:=0) (cap:=cap) N R hl O (Nat.le_refl _) (Nat.zero_le _) (Nat.zero_le _)
      exact⟨_,by simp only [Instr.slice,Sem.run_bind,bn A,Result.andThen_ok,hb,run_sizeOf hsz,Sem.run_pure];rfl,.d (.sl0 _ _)⟩
     | sl b off cap sz _ us hcap hs hI F L hr =>
      have hb:=qA (P:=P) (isSlice:=true) (len:=xs.length) (cap:=cap) N R hl O hc.1 (by omega) hcap
      refine⟨.slice (if cap=l then some ⟨b,off,none⟩else some ⟨b,off+l*size,none⟩) (h-l) (cap-l),?_,.d ?_⟩
      ·simp only [Instr.slice,Sem.run_bind,bn A,Result.andThen_ok,hb,run_sizeOf hsz,Sem.run_pure,Option.map_some,addr_add]
      ·by_cases hz:h-l=0
       ·have e0:(xs.take h).drop l=[]:=by rw [<- List.length_eq_zero_iff,B];exact hz
        rw [e0,hz]
        exact .sl0 _ _
       ·rw [if_neg (by omega),<- B]
        have hszz:sz=size:=by rw [<- hs 0 (by omega),X 0 (by omega)]
        subst hszz
        refine .sl b (off+l*sz) (cap-l) sz _ (λi j=>us (l+i) j) (by rw [B];omega) (λi hi => ?_) (λi j hi hj => ?_) (λi j hi hj => ?_) (λi j hi hj=>L _ j (by rw [B]at hi;omega) hj) (λi j hi hj => ?_)
        ·rw [List.getElem_drop,List.getElem_take];exact X _ (by rw [B]at hi;omega)
        ·rw [B]at hi
         have:=hI (l+i) j (by omega) hj
         rwa [Nat.add_mul,<- Nat.add_assoc]at this
        ·rw [B]at hi
         have:=F (l+i) j (by omega) hj
         rwa [Nat.add_mul,<- Nat.add_assoc]at this
        ·rw [B]at hi
         simp only [List.getElem_drop,List.getElem_take]at hj ⊢
         exact hr (l+i) j (by omega) hj
    ·cases hf
   ·cases hf
  ·rename_i e n sz k len A
   split at hf
   ·rename_i size l h hsz hl O
    split at hf
    ·rename_i hc
     simp only [so_]at hf;subst hf
     obtain ⟨hc1,hc2,rfl⟩:=hc
     rw [qc A]
     cases W with
     | vs0 _ _ _ a =>
      have Z:h=0:=by omega
      have Y:l=0:=by omega
      subst Z Y
      have hb:=qA (P:=P) (isSlice:=true) (len:=0) (cap:=0) N R hl O (Nat.le_refl _) (Nat.le_refl _) (Nat.le_refl _)
      exact⟨_,by simp only [Instr.slice,Sem.run_bind,bn A,Result.andThen_ok,hb,run_sizeOf hsz,Sem.run_pure];rfl,.vs0 _ _ _ _⟩
     | vs _ _ cap hmu hcap hbd =>
      rename_i b o
      have hb:=qA (P:=P) (isSlice:=true) (len:=len) (cap:=cap) N R hl O hc1 (by omega) hcap
      refine⟨.slice (if cap=l then some ⟨b,o+k*size,none⟩else some ⟨b,o+k*size+l*size,none⟩) (h-l) (cap-l),?_,?_⟩
      ·simp only [Instr.slice,Sem.run_bind,bn A,Result.andThen_ok,hb,run_sizeOf hsz,Sem.run_pure,Option.map_some,addr_add]
      ·by_cases hz:cap=l
       ·rw [if_pos hz]
        have e1:h-l=0:=by omega
        have e2:cap-l=0:=by omega
        rw [e1,e2]
        exact .vs0 _ _ _ _
       ·rw [if_neg hz,Nat.add_assoc,<- Nat.add_mul]
        exact .vs (k+l) (h-l) (cap-l) hmu (by omega) (by rw [show k+l+(cap-l)=k+cap by omega];exact hbd)
    ·cases hf
   ·cases hf
  ·rename_i e A
   split at hf
   ·rename_i size l h hsz hl O
    split at hf
    ·rename_i hc
     simp only [so_]at hf;subst hf
     obtain ⟨rfl,rfl⟩:=hc
     rw [qc A]
     cases W with
     | nil a =>
      have hb:=qA (P:=P) (isSlice:=true) (len:=0) (cap:=0) N R hl O (Nat.le_refl _) (Nat.le_refl _) (Nat.le_refl _)
      exact⟨_,by simp only [Instr.slice,Sem.run_bind,bn A,Result.andThen_ok,hb,run_sizeOf hsz,Sem.run_pure];rfl,.nil _⟩
    ·cases hf
   ·cases hf
  ·cases hf
 ·rename_i vm
  have done:∀{e:TypeId} {a:Option Addr} {len cap:Nat},P.underlying t=some (.slice e)->(∃s,szT P e=some s)->u = .slice a len cap->zT I J (some vm)=true ->
    ∃r,(Instr.sliceAt t u lo hi mx).run P w = .ok r w/\RepV G w r .nil:=by
   rintro e a len cap A ⟨s,hs⟩ rfl h3
   rw [qc A]
   have hb:=N8 (P:=P) N R rm h3 true len cap
   exact⟨_,by simp only [Instr.slice,Sem.run_bind,bn A,Result.andThen_ok,hb,run_sizeOf hs,Sem.run_pure];rfl,.nil _⟩
  have M:∀{e:TypeId},P.underlying t=some (.slice e)->(∃a len cap,u = .slice a len cap)->(match szT P e with
   | some _=>bif zT I J (some vm)then some V.nil else Option.none
   | Option.none=>Option.none)=some v->∃r,(Instr.sliceAt t u lo hi mx).run P w = .ok r w/\RepV G w r v:=by
   rintro e A ⟨a,len,cap,rfl⟩ h3
   split at h3
   ·rename_i s hs
    cases h4:zT I J (some vm)with
    | true =>
     simp only [h4,cond_true,so_]at h3
     subst h3
     exact done A ⟨s,hs⟩ rfl h4
    | false=>simp only [h4,cond_false]at h3;cases h3
   ·cases h3
  split at hf
  ·rename_i e xs A
   split at hf
   ·rename_i s hs
    cases h4:zT I J (some vm)with
    | true =>
     rw [h4,cond_true,so_]at hf
     subst hf
     cases W.d_inv with
     | sl0 a cap=>exact done A ⟨s,hs⟩ rfl h4
     | sl=>exact done A ⟨s,hs⟩ rfl h4
    | false =>
     rw [h4,cond_false]at hf
     cases h5:OL I J (some vm) xs.length with
     | false=>rw [h5]at hf;cases hf
     | true =>
      rw [h5,cond_true,so_]at hf
      subst hf
      rw [qc A]
      cases W.d_inv with
      | sl0 a cap =>
       have hb:=JL (P:=P) N R rm h5 true 0 cap (Nat.zero_le _)
       exact⟨_,by simp only [Instr.slice,Sem.run_bind,bn A,Result.andThen_ok,hb,run_sizeOf hs,Sem.run_pure];rfl,.d (.sl0 _ _)⟩
      | sl b off cap sz _ us hcap hs' hI F L hr =>
       have hb:=JL (P:=P) N R rm h5 true xs.length cap hcap
       refine⟨.slice (some ⟨b,off,none⟩) xs.length xs.length,?_,.d (.sl b off xs.length sz _ us (Nat.le_refl _) hs' hI F L hr)⟩
       simp only [Instr.slice,Sem.run_bind,bn A,Result.andThen_ok,hb,run_sizeOf hs,Sem.run_pure,Option.map_some,addr_add,Nat.zero_mul,Nat.add_zero,Nat.sub_zero,ite_self]
   ·cases hf
  ·rename_i e n sz k len A
   refine M A ?_ hf
   cases W with
   | vs0=>exact⟨_,_,_,rfl⟩
   | vs=>exact⟨_,_,_,rfl⟩
  ·rename_i e A
   refine M A ?_ hf
   cases W with
   | nil a=>exact⟨_,_,_,rfl⟩
  ·cases hf
end
end Go.Eng

/-
  THE ENGINE: new rows of elements: make, slice literals, append.
-/
namespace Go.Eng
set_option linter.unusedSectionVars false
variable [DM]
variable {P:Program}
section
variable {E:Env} {G:Gh} {w:World} {S:Store} {tk:Nat} {U:Nat->Prop} {dst:Option Nat}
theorem all_vec (sz:Nat) (xs:List (List D)):(Box.vec sz xs).all=(xs.map λx=>x.map V.d).flatten:=rfl
theorem M9 {xs:List (List D)} {sz:Nat} (h:∀x∈xs,x.length=sz):∀x∈xs.map (λx=>x.map V.d),x.length=sz:=by
  intro x A
  obtain ⟨y,o,rfl⟩:=List.mem_map.1 A
  rw [List.length_map];exact h y o
theorem Cs {xs:List (List D)} {sz:Nat} (h:∀x∈xs,x.length=sz):(Box.vec sz xs).all.length=xs.length*sz:=by
  rw [all_vec,tu sz _ (M9 h)];simp
theorem Gn {xs:List (List D)} {sz:Nat} (h:∀x∈xs,x.length=sz) (k:Nat) (I:k<(Box.vec sz xs).all.length) :
    ∃(hi:k / sz<xs.length) (hj:k % sz<xs[k / sz].length),(Box.vec sz xs).all[k] = .d xs[k / sz][k % sz]:=by
  have A:=Cs h
  have o:k<xs.length*sz:=A ▸ I
  have J:0<sz:=by
    rcases Nat.eq_zero_or_pos sz with B|B
    · subst B;simp at o
    · exact B
  have hi:k / sz<xs.length:=(Nat.div_lt_iff_lt_mul J).2 o
  have hl:xs[k / sz].length=sz:=h _ (List.getElem_mem hi)
  have hj:k % sz<xs[k / sz].length:=by rw [hl];exact Nat.mod_lt _ J
  refine⟨hi,hj,?_⟩
  obtain ⟨h1,h2⟩:=flat_get sz _ (M9 h) (k / sz) (k % sz) (by simpa using hi) (by simpa using hj)
  have e:k / sz*sz+k % sz=k:=Nat.div_add_mod' k sz
  have:(Box.vec sz xs).all[k]? = some (.d xs[k / sz][k % sz]):=by
    have F:((xs.map λx=>x.map V.d).flatten)[k / sz*sz+k % sz]? = some (.d xs[k / sz][k % sz]):=by
      rw [List.getElem?_eq_getElem h1,h2];simp
    rw [e]at F
    exact F
  rw [List.getElem?_eq_getElem I]at this
  exact Option.some.inj this
theorem Hl {G':Gh} {w':World} {b o sz:Nat} {arr:Array Value} {elem:TypeId} {xs:List (List D)} (hb:w'.heap[b]? = some (.cells arr elem (0,0)))
    (A:∀x∈xs,x.length=sz) (B:o+xs.length*sz<=arr.size) (h:∀F,¬G'.imm b F)
    (I:∀i j (hi:i<xs.length) (hj:j<xs[i].length),∃u,arr[o+(i*sz+j)]? = some u/\u.oneCell'=true/\RepD G'.imm w' u xs[i][j]):Stands G' w' (.vec sz xs) b o sz where
  sz:=rfl
  even:=A
  room:=by rw [Cs A,bA hb];exact B
  cell k hk:=by
    obtain ⟨hi,hj,e⟩:=Gn A k hk
    obtain ⟨u,h1,ho,h2⟩:=I _ _ hi hj
    rw [Nat.div_add_mod']at h1
    exact⟨u,by rw [cell_of_row hb];exact h1,ho,by rw [e];exact .d h2⟩
  free _:=⟨⟨arr,elem,hb⟩,h⟩
  froz hx:=by simp [Box.mut]at hx
theorem vz (h:Inv E G w S tk U) {dst:Nat} (I:¬U dst) (elem:TypeId) (arr:Array Value) {sz:Nat} {xs:List (List D)} (F:∀x∈xs,x.length=sz)
    (o:xs.length*sz<=arr.size) (J:∀i j (hi:i<xs.length) (hj:j<xs[i].length),∃u,arr[i*sz+j]? = some u/\u.oneCell'=true/\RepD G.imm w u xs[i][j]) :
    Inv E ⟨G.imm,λm=>if m=(dst,tk)then some (w.heap.size,0,sz)else G.mu m⟩ (w.alloc (.cells arr elem)) (supd S (dst,tk) (some (.vec sz xs))) tk (λu=>U u\/u=dst) /\
    Ext G w ⟨G.imm,λm=>if m=(dst,tk)then some (w.heap.size,0,sz)else G.mu m⟩ (w.alloc (.cells arr elem)) :=
  h.allocBox dst I (.cells arr elem) (.vec sz xs) (λG' A e=>by
    have hs:Stands G' (w.alloc (.cells arr elem)) (.vec sz xs) w.heap.size 0 sz :=
      Hl (jX w _) F (by simpa using o) (λL B=>Nat.lt_irrefl _ (h.immB _ _ ((A _ _).1 B)))
        (λi j hi hj=>by
          obtain ⟨u,h1,ho,h2⟩:=J i j hi hj
          exact⟨u,by simpa using h1,ho,h2.ext e.imm e.cell e.still e.sizeI⟩)
    exact hs)
theorem Inv.drew (h:Inv E G w S tk U):Inv E G w.drew S tk U/\Ext G w G w.drew :=
  h.more (λ_ _=>rfl) (Nat.le_refl _) rfl rfl rfl (λ_ _ h=>h) (λ_ _ h => .inl h) rfl (λ_ h=>h)
theorem eZ.of {s:Sem Value} {u:Value} {w':World} {G':Gh} {A:Eff} (h:s.run P w = .ok u w') (e:Ext G w G' w')
    (hi:Inv E G' w' (fP S A.upd) tk (λn=>U n\/dst=some (n % 100000))) (o:RepV G' w' u A.val):eZ P E (do pure (.value (<- s))) dst G w S tk U A :=
  ⟨.value u,u,w',G',by simp only [Sem.run_bind,h,Result.andThen_ok,Sem.run_pure],.inl rfl,e,hi,o⟩
theorem LM (z:Array Value) (n i:Nat) (h:i<n):((Array.range n).map (λk=>z[k % z.size]!))[i]? = some (z[i % z.size]!):=by
  simp [h]
theorem H7 (G:Gh) (w:World) {l:List Value} {ds:List D} (h:Gw (l.map sQ)=some ds):l.length=ds.length/\∀i (h1:i<l.length) (h2:i<ds.length),RepD G.imm w l[i] ds[i]:=by
  have e:=En h
  have hl:l.length=ds.length:=by have:=congrArg List.length e;simpa using this
  refine⟨hl,λi h1 h2 => ?_⟩
  have o:(l.map sQ)[i]? = (ds.map V.d)[i]? := by rw [e]
  rw [List.getElem?_map,List.getElem?_map,List.getElem?_eq_getElem h1,List.getElem?_eq_getElem h2]at o
  have A:sQ l[i] = .d ds[i]:=Option.some.inj o
  have:=oo G w l[i]
  rw [A]at this
  exact this.d_inv
theorem wrap_small {n:Int} (o:0<=n) (h1:n<=2 ^ 48):IntKind.i64.wrap n=n:=by
  have e:n % (18446744073709551616:Int)=n:=Int.emod_eq_of_lt o (by omega)
  have h:¬((9223372036854775808:Int)<=n):=by omega
  simp [IntKind.wrap,IntKind.bits,IntKind.signed,e,h]
theorem wN {e:TypeId} {size:Nat} (h:szT P e=some size):∃i,P.info? e=some i/\i.bytes=iw P e/\i.size=size:=by
  obtain ⟨i,d,h1,h2,_⟩:=xE h
  exact⟨i,h1,by simp [iw,h1],h2⟩
theorem lX {e:TypeId} {z:List V} (h:zeroCells P e=some z):∃o,(P.info? e).bind (·.zero)=some o/\z=o.cells.toList.map sQ:=by
  simp only [zeroCells,Option.map_eq_some_iff]at h
  obtain ⟨o,h1,rfl⟩:=h
  exact⟨o,h1,rfl⟩
theorem run_makeSlice {t e:TypeId} (I:P.underlying t=some (.slice e)) {size:Nat} (hsz:szT P e=some size) {B:Value} (M:(P.info? e).bind (·.zero)=some B)
    {k k':IntKind} {n:Int} (L:0<=n) (h1:n*iw P e<=2 ^ 48) (h2:n<=2 ^ 48) (N:0<size) (w:World) :
    ∃arr:Array Value,(Instr.makeSlice t (.int k n) (.int k' n)).run P w = .ok (.slice (some ⟨w.heap.size,0,none⟩) n.toNat n.toNat) (w.alloc (.cells arr e)) /\
      arr=(Array.range (n.toNat*size)).map (λi=>B.cells[i % B.cells.size]!):=by
  obtain ⟨i,F,i2,i3⟩:=wN hsz
  refine⟨_,?_,rfl⟩
  have J:=wrap_small L h2
  have hb:¬((281474976710656:Int)<(i.bytes:Int)*n):=by rw [i2,Int.mul_comm];omega
  have o:¬n<0:=by omega
  by_cases hnz:n.toNat*size=0
  · have A:n.toNat=0:=by
      rcases Nat.mul_eq_zero.1 hnz with h|h
      · exact h
      · omega
    simp [Instr.makeSlice,bn I,asInt,asIntOf,typeInfo,F,J,hb,o,run_sizeOf hsz,A,oz,show Array.range 0 = #[] from rfl]
  · simp [Instr.makeSlice,bn I,asInt,asIntOf,typeInfo,F,J,hb,o,run_sizeOf hsz,hnz,nG M,oz]
theorem Ib {t e:TypeId} (J:P.underlying t=some (.slice e)) {size:Nat} (hsz:szT P e=some size) {F:Value} (N:(P.info? e).bind (·.zero)=some F)
    {k k':IntKind} {n:Int} (M:0<=n) (h1:n*iw P e<=2 ^ 48) (h2:n<=2 ^ 48) (O:0<size) (w:World) :
    ∃arr:Array Value,(Instr.makeSlice t (.int k 0) (.int k' n)).run P w = .ok (.slice (some ⟨w.heap.size,0,none⟩) 0 n.toNat) (w.alloc (.cells arr e))/\arr.size=n.toNat*size:=by
  obtain ⟨i,I,i2,i3⟩:=wN hsz
  have L:=wrap_small M h2
  have o:IntKind.i64.wrap 0=0:=wrap_small (by omega) (by omega)
  have hb:¬((281474976710656:Int)<(i.bytes:Int)*n):=by rw [i2,Int.mul_comm];omega
  have A:¬n<0:=by omega
  refine⟨(Array.range (n.toNat*size)).map (λi=>F.cells[i % F.cells.size]!),?_,by simp⟩
  by_cases hnz:n.toNat*size=0
  · have B:n.toNat=0:=by
      rcases Nat.mul_eq_zero.1 hnz with h|h
      · exact h
      · omega
    simp [Instr.makeSlice,bn J,asInt,asIntOf,typeInfo,I,L,o,hb,A,run_sizeOf hsz,B,oz,show Array.range 0 = #[] from rfl]
  · simp [Instr.makeSlice,bn J,asInt,asIntOf,typeInfo,I,L,o,hb,A,run_sizeOf hsz,hnz,nG N,oz]
theorem I8 (h:Inv E G w S tk U) {d:Nat} (X:d<100000) (hd:¬U d) {t:TypeId} {u u':Value} {l c:V} {A:Eff} (hl:RepV G w u l) (hc:RepV G w u' c) (hf:vk P t l c d tk=some A) :
    eZ P E (do pure (.value (<- Instr.makeSlice t u u'))) (some d) G w S tk U A:=by
  unfold vk at hf
  split at hf
  · rename_i e k n k' m he
    have hu:=lS he
    rw [hl.d_inv.int_inv,hc.d_inv.int_inv]
    split at hf
    · rename_i size z hsz hz
      split at hf
      · rename_i B
        obtain ⟨rfl,h0,h1,h2,Y,N⟩:=B
        obtain ⟨F,W,rfl⟩:=lX hz
        obtain ⟨arr,I,o⟩:=Ib (P:=P) (k:=k) (k':=k') hu hsz W h0 h1 h2 N w
        simp only [so_]at hf;subst hf
        obtain ⟨a1,a2⟩:=vz h hd e arr (sz:=size) (xs:=[]) (λx hx=>by cases hx) (by simp) (λi j hi hj=>absurd hi (by simp))
        refine eZ.of I a2 (a1.mono (λn hn=>hn.imp id (λe=>by rw [e,Nat.mod_eq_of_lt X]))) ?_
        have:(⟨w.heap.size,0,none⟩:Addr)=⟨w.heap.size,0+0*size,none⟩:=by simp
        rw [this]
        exact .vs 0 _ _ (by simp) (Nat.zero_le _) (by rw [bA (jX w _),o];simp)
      split at hf
      · rename_i B
        obtain ⟨h0,rfl,h1,h2,Y,N,L⟩:=B
        obtain ⟨F,W,rfl⟩:=lX hz
        obtain ⟨arr,I,M⟩:=run_makeSlice (P:=P) (k:=k) (k':=k') hu hsz W h0 h1 h2 N w
        have R:F.cells.size=size:=by simpa using Y
        have o:arr.size=n.toNat*size:=by rw [M];simp
        split at hf
        · rename_i ds hds
          simp only [so_]at hf;subst hf
          obtain ⟨q1,q2⟩:=H7 G w hds
          have q1':F.cells.size=ds.length:=by simpa using q1
          obtain ⟨a1,a2⟩:=vz h hd e arr (sz:=size) (xs:=List.replicate n.toNat ds) (λx hx=>by rw [(List.mem_replicate.1 hx).2,<- q1',R]) (by simp [o]) (λi j hi hj=>by
            simp only [List.length_replicate]at hi
            simp only [List.getElem_replicate]at hj ⊢
            have hj':j<size:=by omega
            have hlt:i*size+j<n.toNat*size:=Nat.lt_of_lt_of_le (by omega:i*size+j<i*size+size) (by rw [<- Nat.succ_mul];exact Nat.mul_le_mul_right _ hi)
            have J:∀k (hk:k<F.cells.toList.length),(F.cells.toList[k]).oneCell'=true:=λk hk =>
              (oo G w _).oneCell (List.all_eq_true.1 L _ (List.mem_map.2 ⟨_,List.getElem_mem hk,rfl⟩))
            refine⟨F.cells[j]!,?_,by rw [getElem!_pos F.cells j (show j<F.cells.size by omega)];exact J j (by simp;omega),?_⟩
            · rw [M,LM _ _ _ hlt,R,Nat.mul_add_mod',Nat.mod_eq_of_lt hj']
            · have:=q2 j (by simp;omega) hj
              simpa [getElem!_pos,show j<F.cells.size by omega]using this)
          refine eZ.of I a2 (a1.mono (λn hn=>hn.imp id (λe=>by rw [e,Nat.mod_eq_of_lt X]))) ?_
          have:(⟨w.heap.size,0,none⟩:Addr)=⟨w.heap.size,0+0*size,none⟩:=by simp
          rw [this]
          exact .vs 0 _ _ (by simp) (Nat.le_refl _) (by rw [bA (jX w _),o];simp)
        · split at hf
          · rename_i J
            subst J
            simp only [so_]at hf;subst hf
            have hz1:F.cells.toList.length=1:=by simpa using R
            obtain ⟨Z,hc0⟩:=List.length_eq_one_iff.1 hz1
            have O:F.cells = #[Z]:=by apply Array.ext';exact hc0
            have hlen:((List.replicate n.toNat ((F.cells.toList.map sQ).headD .any))).length=n.toNat:=by simp
            obtain ⟨a1,a2⟩:=h.allocBox d hd (.cells arr e) (.cells 1 (List.replicate n.toNat ((F.cells.toList.map sQ).headD .any))) (λG' hG' e'=>by
              have hb:=jX w (.cells arr e)
              have hs:Stands G' (w.alloc (.cells arr e)) (.cells 1 (List.replicate n.toNat ((F.cells.toList.map sQ).headD .any))) w.heap.size 0 1 :=
                { sz:=rfl,even:=trivial
                  room:=by rw [bA hb,o];simp [Box.all]
                  cell:=λj hj=>by
                    have hj':j<n.toNat:=by simpa [Box.all]using hj
                    refine⟨Z,?_,(oo G w Z).oneCell (List.all_eq_true.1 L _ (List.mem_map.2 ⟨Z,by rw [hc0];simp,rfl⟩)),?_⟩
                    · rw [cell_of_row hb,Nat.zero_add,M,LM _ _ _ (by omega),O];simp [Nat.mod_one]
                    · simp only [Box.all,List.getElem_replicate,O,List.map_cons,List.headD_cons]
                      exact oo _ _ Z
                  free:=λ_=>⟨⟨arr,e,hb⟩,λo' ho'=>Nat.lt_irrefl _ (h.immB _ _ ((hG' _ _).1 ho'))⟩
                  froz:=λhx=>by simp [Box.mut]at hx
                  cel:=⟨λ_=>rfl,λhs=>absurd hs (by decide)⟩ }
              exact hs)
            refine eZ.of I a2 (a1.mono (λn hn=>hn.imp id (λe=>by rw [e,Nat.mod_eq_of_lt X]))) ?_
            have:(⟨w.heap.size,0,none⟩:Addr)=⟨w.heap.size,0+0*1,none⟩:=by simp
            rw [this]
            exact .vs 0 _ _ (by simp [Box.sz]) (Nat.le_refl _) (by rw [bA (jX w _),o];simp)
          · cases hf
      · cases hf
    · cases hf
  · cases hf
end
end Go.Eng

