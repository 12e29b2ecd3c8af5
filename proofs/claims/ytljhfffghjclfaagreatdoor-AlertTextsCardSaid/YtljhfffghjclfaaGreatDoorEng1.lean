/-
  The engine: what the machine does to data, shown once for all programs (part 1).
-/
import Derived.Laws.Sem
import Derived.Lib.ItoaNum
import Derived.Lib.LaidTab
import Derived.Shelf.Unicode.DecodeSlow
import Derived.Test.YtljhfffghjclfaaGreatDoorProg
import Derived.Still
import Derived.MapKept
import Derived.Laws.World
import Derived.Laws.Cells
import Derived.Laws.CopyRow
import Derived.Laws.Strings
import Derived.Laws.Pointers
import Derived.Laws.StructEq
/-
  THE ENGINE: what is known of the package-level variables when the law is called: here nothing.
-/
namespace Go.Eng
theorem ob_.{u_1,u_2} {α:Type u_1} {β:Type u_2} (a:α) (f:α->Option β):(some a).bind f=f a:=rfl
theorem so_.{u_1} {α:Type u_1} (a b:α):(some a=some b)=(a=b):=Option.some.injEq a b
theorem ls_ (n:Nat):n<n.succ:=Nat.lt_succ_self n
def tu : World → Prop := fun w => Go.Lib.TabIs Go.Proofs.Tryz.prog w "internal/strconv.uint64pow10" .u64 Go.Lib.pow10Tab ∧ (∃ m, w.cell? ⟨2, 0, none⟩ = some (.int .i64 m)) ∧ Go.Lib.Utf8Tabs 0 1 w
def byteK:TypeId:=5
class DM where
 dm:Bool
def dmK [DM]:Bool:=DM.dm
instance dmI:DM:=⟨false⟩
@[reducible] def dmT:DM:=⟨true⟩
end Go.Eng

/-
  THE ENGINE, ITS WORDS: data without addresses (D), what a temporary may hold (V), the boxes of a store (Box), and what each operation does to them, computed.
-/
namespace Go.Eng
abbrev Nm:=Nat×Nat
inductive D where
 | int (k:IntKind) (n:Int)
 | bool (b:Bool)
 | str (s:ByteArray)
 | sl (xs:List (List D))
 | agg (cs:List D)
 | ptr (cs:List D)
 | nilp
 | wild (sz len:Nat)
 | wildp (k:Nat)
 | nils
inductive V where
 | d (x:D)
 | nil
 | nilm
 | nili
 | ref (n:Nm) (i j:Nat)
 | vs (n:Nm) (sz k len:Nat)
 | fn (f:FuncId) (caps:List V)
 | agg (cs:List V)
 | tup (vs:List V)
 | map (n:Nm)
 | none
 | any
inductive Box where
 | vec (sz:Nat) (xs:List (List D))
 | froz (sz:Nat) (xs:List (List D))
 | cells (sz:Nat) (cs:List V)
 | map (es:List (D×D))
 | pmap (es:List (D×V))
 | iter (cur:Option (D×V)) (left:List (D×V))
abbrev Store:=Nm->Option Box
structure Eff where
 req:List (Nm×Box)
 upd:List (Nm×Option Box)
 val:V
structure St where
 slots:Nat->V
 store:Store
 tick:Nat
def upd (f:Nat->V) (i:Nat) (v:V):Nat->V:=λj=>bif Nat.beq j i then v else f j
def supd (S:Store) (n:Nm) (b:Option Box):Store:=λm=>if m=n then b else S m
def dn (S:Store):List (Nm×Option Box)->Store
 | []=>S
 | (n,b)::rest=>dn (supd S n b) rest
def Ce:List V->Option (List D)
 | []=>some []
 | .d x::vs=>(Ce vs).map (x :: ·)
 | _::_=>Option.none
def oF:List V->Option (List D)
 | []=>some []
 | .d x::vs=>(oF vs).map (x :: ·)
 | .nil::vs=>(oF vs).map (.sl [] :: ·)
 | _::_=>Option.none
def mkAgg (vs:List V):V:=match Ce vs with
 | some ds => .d (.agg ds)
 | Option.none => .agg vs
def aW:V->List V
 | .d (.agg ds)=>ds.map .d
 | .agg vs=>vs
 | v=>[v]
def mZ:Value->V
 | .int k n => .d (.int k n)
 | .bool b => .d (.bool b)
 | .string s => .d (.str s)
 | .slice Option.none 0 0 => .nil
 | .pointer Option.none => .d .nilp
 | .map Option.none => .nilm
 | .nilIface => .nili
 | _ => .any
def valV:Value->V
 | .agg cs=>mkAgg (cs.toList.map mZ)
 | .tuple vs=>if vs.size=0 then .none else .any
 | v=>mZ v
def ev (sl:Nat->V):Operand->V
 | .tmp t=>sl t
 | .const v=>valV v
 | .func f => .fn f []
 | .global _ => .any
def cO (P:Program) (t:TypeId):Bool:=match P.underlying t with
 | some (.struct _) | some (.array _ _)=>true
 | _=>false
def szT (P:Program) (t:TypeId):Option Nat:=match P.info? t,P.underlying t with
 | some i,some _=>some i.size
 | _,_=>Option.none
def tY (P:Program) (t:TypeId) (f:Nat):Option Field:=match P.underlying t with
 | some (.struct fs)=>fs[f]?
 | _=>Option.none
def elemT (P:Program) (t:TypeId):Option TypeId:=match P.underlying t with
 | some (.slice e)=>some e
 | _=>Option.none
def eF (v:V):Option Eff:=some ⟨[],[],v⟩
def rdD (agg:Bool) (size:Nat) (cs:List D):Option V :=
 bif agg then (bif Nat.ble size cs.length then some (.d (.agg (cs.take size)))else Option.none)
 else match cs with
  | c::_=>some (.d c)
  | []=>Option.none
def rdV (agg:Bool) (size:Nat) (cs:List V):Option V :=
 bif agg then (bif Nat.ble size cs.length then some (mkAgg (cs.take size))else Option.none)
 else match cs with
  | c::_=>some c
  | []=>Option.none
def pW (P:Program) (t:TypeId) (S:Store) (a:V):Option Eff :=
 match szT P t with
 | Option.none=>Option.none
 | some size =>
 match a with
 | .d (.ptr cs)=>(rdD (cO P t) size cs).bind eF
 | .ref n i j=>match S n with
  | some (.vec sz xs)=>match xs[i]? with
   | some cs=>(rdD (cO P t) size (cs.drop j)).map λv=>⟨[(n,.vec sz xs)],[],v⟩
   | Option.none=>Option.none
  | some (.froz sz xs)=>match xs[i]? with
   | some cs=>(rdD (cO P t) size (cs.drop j)).map λv=>⟨[(n,.froz sz xs)],[],v⟩
   | Option.none=>Option.none
  | some (.cells sz cs)=>(rdV (cO P t) size (cs.drop (i*sz+j))).map λv=>⟨[(n,.cells sz cs)],[],v⟩
  | _=>Option.none
 | _=>Option.none
def splice {α:Type} (cs new:List α) (o:Nat):List α:=cs.take o++new++cs.drop (o+new.length)
def iq:V->Bool
 | .d (.agg _) | .agg _ | .tup _ | .none | .any=>false
 | _=>true
def rT (P:Program) (t:TypeId) (S:Store) (a x:V):Option Eff :=
 match szT P t with
 | Option.none=>Option.none
 | some size =>
 match a with
 | .ref n i j=>match S n with
  | some (.cells sz cs) =>
   bif Nat.beq (aW x).length size&&Nat.ble (i*sz+j+size) cs.length&&(aW x).all iq&&Nat.blt sz 1048576 then
    some ⟨[(n,.cells sz cs)],[(n,some (.cells sz (splice cs (aW x) (i*sz+j))))],.none⟩
   else Option.none
  | some (.vec sz xs)=>match xs[i]?,oF (aW x)with
   | some cs,some new =>
    bif Nat.beq new.length size&&Nat.ble (j+size) cs.length&&(aW x).all iq then
     some ⟨[(n,.vec sz xs)],[(n,some (.vec sz (xs.set i (splice cs new j))))],.none⟩
    else Option.none
   | _,_=>Option.none
  | _=>Option.none
 | .d (.wildp k)=>bif Nat.beq (aW x).length size&&Nat.ble size k&&(aW x).all iq&&Nat.blt 0 size then some ⟨[],[],.none⟩else Option.none
 | _=>Option.none
def zeroCells (P:Program) (t:TypeId):Option (List V):=((P.info? t).bind (·.zero)).map λv=>v.cells.toList.map mZ
def uC (P:Program) (t:TypeId) (dst:Nat) (tk:Nat):Option Eff :=
 match zeroCells P t with
 | some cs=>bif cs.all iq&&Nat.blt cs.length 1048576 then some ⟨[],[((dst,tk),some (.cells cs.length cs))],.ref (dst,tk) 0 0⟩else Option.none
 | Option.none=>Option.none
def ql (P:Program) (t:TypeId) (dst:Nat) (tk:Nat):Option Eff :=
 match zeroCells P t with
 | some [.d .nilp,.nil]=>some ⟨[],[((dst,tk),some (.cells (1048576+t) [.any,.nil]))],.ref (dst,tk) 0 0⟩
 | _=>Option.none
def HZ (v:V) (dst tk:Nat):Option Eff :=
 bif (aW v).all iq&&Nat.blt (aW v).length 1048576 then some ⟨[],[((dst,tk),some (.cells (aW v).length (aW v)))],.ref (dst,tk) 0 0⟩else Option.none
def Fb (op:BinOp) (k:IntKind) (a b:Int):Option D :=
 match op with
 | .add=>some (.int k (k.wrap (a+b)))
 | .sub=>some (.int k (k.wrap (a-b)))
 | .mul=>some (.int k (k.wrap (a*b)))
 | .quo=>if b=0 then Option.none else some (.int k (k.wrap (a.tdiv b)))
 | .rem=>if b=0 then Option.none else some (.int k (a.tmod b))
 | .and=>some (.int k (k.wrap (BitVec.ofInt k.bits a &&& BitVec.ofInt k.bits b).toNat))
 | .or=>some (.int k (k.wrap (BitVec.ofInt k.bits a ||| BitVec.ofInt k.bits b).toNat))
 | .xor=>some (.int k (k.wrap (BitVec.ofInt k.bits a ^^^ BitVec.ofInt k.bits b).toNat))
 | .eql=>some (.bool (a==b))
 | .neq=>some (.bool (a != b))
 | .lss=>some (.bool (a<b))
 | .leq=>some (.bool (a<=b))
 | .gtr=>some (.bool (a>b))
 | .geq=>some (.bool (a>=b))
 | _=>Option.none
def JM (op:BinOp) (x y:ByteArray):Option D :=
 match op with
 | .add=>if ((x.size+y.size:Nat):Int)>IntKind.i64.max then Option.none else some (.str (x++y))
 | .eql=>some (.bool (x.toList==y.toList))
 | .neq=>some (.bool !(x.toList==y.toList))
 | .lss=>some (.bool (Op.bytesLess x.toList y.toList))
 | .leq=>some (.bool (Op.bytesLess x.toList y.toList||x.toList==y.toList))
 | .gtr=>some (.bool !(Op.bytesLess x.toList y.toList||x.toList==y.toList))
 | .geq=>some (.bool !(Op.bytesLess x.toList y.toList))
 | _=>Option.none
def shOp (op:BinOp) (k:IntKind) (a b:Int):Option D :=
 if b<0 then Option.none else
 match op with
 | .shl=>some (.int k (k.wrap (a*2 ^ (min b.toNat k.bits))))
 | .shr=>some (.int k (a.fdiv (2 ^ (min b.toNat k.bits))))
 | _=>Option.none
def EH:BinOp->Bool | .shl | .shr=>true | _=>false
def G5 (op:BinOp) (x y:V):Option V :=
 match x,y with
 | .d (.int k a),.d (.int k' b) =>
  bif EH op then (shOp op k a b).map .d
  else if k=k' then (Fb op k a b).map .d else Option.none
 | .d (.str a),.d (.str b)=>(JM op a b).map .d
 | _,_=>Option.none
def unF (op:UnOp) (x:V):Option V :=
 match op,x with
 | .neg,.d (.int k n)=>some (.d (.int k (k.wrap (0-n))))
 | .not,.d (.bool b)=>some (.d (.bool !b))
 | _,_=>Option.none
def jD (P:Program) (t:TypeId) (x i:V):Option Eff :=
 match (elemT P t).bind (szT P),i with
 | some size,.d (.int _ i) =>
  bif decide (0<=i)then
  match x with
  | .d (.sl xs)=>match xs[i.toNat]? with
   | some cs=>bif Nat.beq cs.length size then eF (.d (.ptr cs))else Option.none
   | Option.none=>Option.none
  | .vs n sz k len=>bif Nat.ble (i.toNat+1) len&&Nat.beq sz size then eF (.ref n (k+i.toNat) 0)else Option.none
  | .d (.wild sz len)=>bif Nat.ble (i.toNat+1) len&&Nat.beq sz size then eF (.d (.wildp size))else Option.none
  | _=>Option.none
  else Option.none
 | _,_=>Option.none
def iI (P:Program) (t:TypeId) (x:V) (f:Nat):Option Eff :=
 match tY P t f with
 | some fd =>
  match szT P fd.type with
  | some (_+1) =>
   match x with
   | .d (.ptr cs)=>bif Nat.ble fd.offset cs.length then eF (.d (.ptr (cs.drop fd.offset)))else Option.none
   | .ref n i j=>eF (.ref n i (j+fd.offset))
   | _=>Option.none
  | _=>Option.none
 | Option.none=>Option.none
def Ef (P:Program) (t:TypeId) (x:V) (f:Nat):Option V :=
 match tY P t f with
 | some fd=>match szT P fd.type with
  | some size=>match x with
   | .d (.agg ds)=>rdD (cO P fd.type) size (ds.drop fd.offset)
   | .agg vs=>rdV (cO P fd.type) size (vs.drop fd.offset)
   | _=>Option.none
  | Option.none=>Option.none
 | Option.none=>Option.none
def vX (place:Nat->Option (Nat×Nat)) (cells:List V):List (Nat×V)->Option (List V)
 | []=>some cells
 | (i,v)::rest=>match place i with
  | Option.none=>Option.none
  | some (off,size) =>
   bif Nat.beq (aW v).length size&&Nat.ble (off+size) cells.length then vX place (splice cells (aW v) off) rest
   else Option.none
def fC (P:Program) (t:TypeId) (i:Nat):Option (Nat×Nat) :=
 match tY P t i with
 | some fd=>(szT P fd.type).map λs=>(fd.offset,s)
 | Option.none=>Option.none
def isStruct (P:Program) (t:TypeId):Bool:=match P.underlying t with
 | some (.struct fs)=>fs.all λf=>(P.info? f.type).isSome
 | _=>false
def arrT (P:Program) (t:TypeId):Option Nat:=match P.underlying t with
 | some (.array _ e)=>szT P e
 | _=>Option.none
def EN (P:Program) (t:TypeId) (parts:List (Nat×V)):Option V :=
 bif isStruct P t then
  match zeroCells P t with
  | some z=>(vX (fC P t) z parts).map mkAgg
  | Option.none=>Option.none
 else match arrT P t,zeroCells P t with
  | some size,some z=>(vX (λi=>some (i*size,size)) z parts).map mkAgg
  | _,_=>Option.none
def mE (size:Nat):Nat->List (Nat×V)->Option (List (List D))
 | _,[]=>some []
 | k,(i,v)::rest=>match oF (aW v),mE size (k+1) rest with
  | some ds,some xs=>bif Nat.beq i k&&Nat.beq ds.length size&&(aW v).all iq then some (ds::xs)else Option.none
  | _,_=>Option.none
def jy (P:Program) (t:TypeId) (len:Nat) (parts:List (Nat×V)) (vm:Bool) (dst tk:Nat):Option Eff :=
 match (elemT P t).bind (szT P)with
 | some size=>match mE size 0 parts with
  | some xs=>bif Nat.beq parts.length len&&Nat.ble (len*size) 16777216&&((elemT P t).bind (zeroCells P)).isSome then
    (bif vm then some ⟨[],[((dst,tk),some (.vec size xs))],.vs (dst,tk) size 0 len⟩else bif Nat.beq len 0 then eF .nil else eF (.d (.sl xs)))
   else Option.none
  | Option.none=>Option.none
 | Option.none=>Option.none
def Bv (P:Program) (t:TypeId) (x:V):Option V :=
 match P.underlying t,x with
 | some .string,.d (.str s)=>some (.d (.int .i64 s.size))
 | some (.slice _),.d (.sl xs)=>some (.d (.int .i64 xs.length))
 | some (.slice _),.nil=>some (.d (.int .i64 0))
 | some (.slice _),.vs _ _ _ len=>some (.d (.int .i64 len))
 | some (.slice _),.d (.wild _ len)=>some (.d (.int .i64 len))
 | _,_=>Option.none
def w9 (x:V) (i:Nat):Option V:=match x with
 | .tup vs=>vs[i]?
 | _=>Option.none
def yg (P:Program) (t:TypeId) (x i:V):Option V :=
 match P.underlying t,x,i with
 | some .string,.d (.str s),.d (.int _ i)=>bif decide (0<=i)then (s[i.toNat]?).map λb => .d (.int .u8 b.toNat)else Option.none
 | some (.array n e),.d (.agg ds),.d (.int _ i)=>match szT P e with
  | some size=>bif decide (0<=i)&&Nat.blt i.toNat n then rdD (cO P e) size (ds.drop (i.toNat*size))else Option.none
  | Option.none=>Option.none
 | _,_,_=>Option.none
def eqD (P:Program):Nat->TypeId->D->D->Option Bool
 | 0,_,_,_=>Option.none
 | n+1,t,x,y =>
  match P.underlying t,x,y with
  | some .bool,.bool a,.bool b=>some (a==b)
  | some (.int _),.int k a,.int k' b=>if k=k' then some (a==b)else Option.none
  | some .string,.str a,.str b=>some (a.toList==b.toList)
  | some (.struct fs),.agg xs,.agg ys =>
   bif P.stoodInHeld t then Option.none else
   fs.toList.foldr (λf acc =>
    match szT P f.type,acc with
    | some size,some r =>
     match rdD (cO P f.type) size (xs.drop f.offset),rdD (cO P f.type) size (ys.drop f.offset)with
     | some (.d a), some (.d b) => if f.name = "_" then some r else (eqD P n f.type a b).map (· && r)
     | _,_=>Option.none
    | _,_=>Option.none) (some true)
  | _,_,_=>Option.none
def pI (P:Program) (op:BinOp) (t:TypeId) (x y:V):Option V :=
 match x,y with
 | .d (.agg xs),.d (.agg ys) =>
  bif P.eqGuardType P.depth t then Option.none else
  match op with
  | .eql=>(eqD P 8 t (.agg xs) (.agg ys)).map λb => .d (.bool b)
  | .neq=>(eqD P 8 t (.agg xs) (.agg ys)).map λb => .d (.bool !b)
  | _=>Option.none
 | .d (.bool a),.d (.bool b) =>
  match P.underlying t,op with
  | some .bool,.eql=>some (.d (.bool (a==b)))
  | some .bool,.neq=>some (.d (.bool (!(a==b))))
  | _,_=>Option.none
 | x,y=>G5 op x y
def zm:Operand->Bool | .const _=>true | _=>false
def Hy:V->Option Bool
 | .ref _ _ _=>some false
 | .d (.ptr _)=>some false
 | .d .nilp=>some true
 | _=>Option.none
def ptrF (P:Program) (op:BinOp) (t:TypeId) (x y:V):Option V :=
 match Hy x,y with
 | some b,.d .nilp=>match P.underlying t,op with
  | some (.pointer _),.eql=>some (.d (.bool b))
  | some (.pointer _),.neq=>some (.d (.bool !b))
  | _,_=>Option.none
 | _,_=>Option.none
def nilF (P:Program) (op:BinOp) (t:TypeId) (ox oy:Operand) (x y:V):Option V :=
 match x,y with
 | .nili,.nili =>
  bif zm ox||zm oy then
  match P.underlying t,op with
  | some (.interface _),.eql=>some (.d (.bool true))
  | some (.interface _),.neq=>some (.d (.bool false))
  | _,_=>Option.none
  else Option.none
 | x,y=>ptrF P op t x y
def y9 (P:Program) (op:BinOp) (t:TypeId) (ox oy:Operand) (x y:V):Option V :=
 match pI P op t x y with
 | some v=>some v
 | Option.none=>nilF P op t ox oy x y
theorem uw {P:Program} {op:BinOp} {t:TypeId} {ox oy:Operand} {x y v:V} (h:pI P op t x y=some v):y9 P op t ox oy x y=some v:=by unfold y9;rw [h]
def Na (c a b:V):Option V:=match c with
 | .d (.bool t)=>some (bif t then a else b)
 | _=>Option.none
def vg (x:V):Option V:=match x with
 | .ref .. | .d (.ptr _)=>some x
 | .fn .. => some x
 | _=>Option.none
def yY (P:Program) (src dst:TypeId) (x:V):Option V :=
 match P.underlying src,P.underlying dst,x with
 | some _,some (.int k),.d (.int _ n)=>some (.d (.int k (k.wrap n)))
 | some _,some .string,.d (.str s)=>some (.d (.str s))
 | some (.int _),some .string,.d (.int _ n)=>some (.d (.str (Utf8.encode n)))
 | _,_,_=>Option.none
def qd (d:Nat):Option V->Option Nat
 | Option.none=>some d
 | some (.d (.int _ n))=>bif decide (0<=n)then some n.toNat else Option.none
 | _=>Option.none
def is0:Option V->Bool
 | some (.d (.int _ n))=>decide (n=0)
 | _=>false
def isNo0:Option V->Bool
 | Option.none=>true
 | v=>is0 v
def uD (lo hi mx:Option V):Bool:=isNo0 lo&&(is0 hi&&is0 mx)
def isN (v:Option V) (n:Nat):Bool:=match v with
 | some (.d (.int _ k))=>decide (k=(n:Int))
 | _=>false
def Jn (lo hi mx:Option V) (n:Nat):Bool:=isNo0 lo&&(isN hi n&&isN mx n)
def ou (P:Program) (t:TypeId) (x:V) (lo hi mx:Option V):Option V :=
 match mx with
 | Option.none =>
  match P.underlying t,x with
  | some .string,.d (.str s) =>
   match qd 0 lo,qd s.size hi with
   | some l,some h=>if l<=h/\h<=s.size then some (.d (.str (s.extract l h)))else Option.none
   | _,_=>Option.none
  | some (.slice e),.d (.sl xs) =>
   match szT P e,qd 0 lo,qd xs.length hi with
   | some size,some l,some h =>
    if l<=h/\h<=xs.length/\xs.all (λx=>Nat.beq x.length size)=true then some (.d (.sl ((xs.take h).drop l)))else Option.none
   | _,_,_=>Option.none
  | some (.slice e),.vs n sz k len =>
   match szT P e,qd 0 lo,qd len hi with
   | some size,some l,some h=>if l<=h/\h<=len/\size=sz then some (.vs n sz (k+l) (h-l))else Option.none
   | _,_,_=>Option.none
  | some (.slice e),.nil =>
   match szT P e,qd 0 lo,qd 0 hi with
   | some _,some l,some h=>if l=0/\h=0 then some .nil else Option.none
   | _,_,_=>Option.none
  | _,_=>Option.none
 | some _ =>
  match P.underlying t,x with
  | some (.slice e),.d (.sl xs) =>
   match szT P e with
   | some _=>bif uD lo hi mx then some .nil else bif Jn lo hi mx xs.length then some (.d (.sl xs))else Option.none
   | Option.none=>Option.none
  | some (.slice e),.vs _ _ _ _ | some (.slice e),.nil =>
   match szT P e with
   | some _=>bif uD lo hi mx then some .nil else Option.none
   | Option.none=>Option.none
  | _,_=>Option.none
def bytesT (P:Program) (t:TypeId):Nat:=((P.info? t).map (·.bytes)).getD 0
def pK (P:Program) (t:TypeId) (l c:V) (dst tk:Nat):Option Eff :=
 match elemT P t,l,c with
 | some e,.d (.int _ n),.d (.int _ m) =>
  match szT P e,zeroCells P e with
  | some size,some z =>
   if n=0/\n<=m/\m*bytesT P e<=2 ^ 48/\m<=2 ^ 48/\z.length=size/\0<size then some ⟨[],[((dst,tk),some (.vec size []))],.vs (dst,tk) size 0 0⟩
   else if 0<=n/\n=m/\n*bytesT P e<=2 ^ 48/\n<=2 ^ 48/\z.length=size/\0<size/\z.all iq=true then
    match Ce z with
    | some ds=>some ⟨[],[((dst,tk),some (.vec size (List.replicate n.toNat ds)))],.vs (dst,tk) size 0 n.toNat⟩
    | Option.none=>if size=1 then some ⟨[],[((dst,tk),some (.cells 1 (List.replicate n.toNat (z.headD .any))))],.vs (dst,tk) 1 0 n.toNat⟩else Option.none
   else Option.none
  | _,_=>Option.none
 | _,_,_=>Option.none
def pg (S:Store) (size:Nat) (y:V):Option (List (List D)×List (Nm×Box)) :=
 match y with
 | .d (.sl ys)=>if ys.all (λx=>Nat.beq x.length size)=true then some (ys,[])else Option.none
 | .nil=>some ([],[])
 | .vs n sz k len=>match S n with
  | some (.vec sz' xs)=>if sz=size/\k+len<=xs.length then some ((xs.drop k).take len,[(n,.vec sz' xs)])else Option.none
  | some (.froz sz' xs)=>if sz=size/\k+len<=xs.length then some ((xs.drop k).take len,[(n,.froz sz' xs)])else Option.none
  | _=>Option.none
 | _=>Option.none
def kP (S:Store) (size:Nat) (y:V):Option (List (List D)×List (Nm×Box)) :=
 match y with
 | .d (.str s)=>if size=1 then some (s.data.toList.map (λb=>[D.int .u8 b.toNat]),[])else Option.none
 | y=>pg S size y
def EQ (P:Program) (t:TypeId):Option Unit:=match P.underlying t with
 | some (.slice _) | some .string=>some ()
 | _=>Option.none
def jB (P:Program) (t t':TypeId) (S:Store) (x y:V) (dst tk:Nat):Option Eff :=
 match elemT P t,EQ P t' with
 | some e,some _ =>
  match szT P e,zeroCells P e with
  | some size,some z =>
   if z.length=size/\0<size then
   match kP S size y with
   | some (ys,req) =>
    match x with
    | .nil =>
     if (2*ys.length+192)*bytesT P e<=2 ^ 48/\ys.length<=2 ^ 48 then
      match ys with
      | []=>some ⟨req,[],.nil⟩
      | _::_=>some ⟨req,[((dst,tk),some (.vec size ys))],.vs (dst,tk) size 0 ys.length⟩
     else Option.none
    | .vs n sz k len =>
     match S n with
     | some (.vec sz' xs) =>
      if sz=size/\k+len=xs.length/\(2*(len+ys.length)+192)*bytesT P e<=2 ^ 48/\len+ys.length<=2 ^ 48 then
       match ys with
       | []=>some ⟨(n,.vec sz' xs)::req,[],.vs n sz k len⟩
       | _::_=>some ⟨(n,.vec sz' xs)::req,[(n,Option.none),((dst,tk),some (.vec size (xs.drop k++ys)))],.vs (dst,tk) size 0 (len+ys.length)⟩
      else Option.none
     | _=>Option.none
    | _=>Option.none
   | Option.none=>Option.none
   else Option.none
  | _,_=>Option.none
 | _,_=>Option.none
end Go.Eng

/-
  THE ENGINE: how data stand in memory: 'RepD', 'RepV', the store's boxes, and what of them stays where the memory grows.
-/
namespace Go.Eng
set_option linter.unusedSectionVars false
variable [DM]
structure Gh where
  imm:Nat->Nat->Prop
  mu:Nm->Option (Nat×Nat×Nat)
def bsize (w:World) (b:Nat):Nat:=match w.heap[b]? with
  | some (.cells c _ _)=>c.size
  | _=>0
def thawB (w:World) (b:Nat):Prop:=∃arr e,w.heap[b]? = some (.cells arr e (0,0))
theorem Ai {w w':World} {b:Nat} (h:w'.heap[b]? = w.heap[b]?) (k:thawB w b):thawB w' b:=by obtain ⟨a,e,x⟩:=k;exact⟨a,e,h.trans x⟩
inductive RepD (I:Nat->Nat->Prop) (w:World):Value->D->Prop
  | int (k:IntKind) (n:Int):RepD I w (.int k n) (.int k n)
  | bool (b:Bool):RepD I w (.bool b) (.bool b)
  | str (s:ByteArray):RepD I w (.string s) (.str s)
  | agg (arr:List Value) (ds:List D) (hl:arr.length=ds.length)
      (h:∀i (h1:i<arr.length) (h2:i<ds.length),RepD I w arr[i] ds[i]):RepD I w (.agg arr.toArray) (.agg ds)
  | sl0 (a:Option Addr) (cap:Nat):RepD I w (.slice a 0 cap) (.sl [])
  | sl (b off cap sz:Nat) (xs:List (List D)) (us:Nat->Nat->Value) (hcap:xs.length<=cap)
      (hsz:∀i (h:i<xs.length),xs[i].length=sz)
      (hI:∀i j,i<xs.length->j<sz->I b (off+i*sz+j))
      (hc:∀i j,i<xs.length->j<sz->w.cell? ⟨b,off+i*sz+j,none⟩=some (us i j))
      (ho:∀i j,i<xs.length->j<sz->(us i j).oneCell'=true)
      (h:∀i j (hi:i<xs.length) (hj:j<xs[i].length),RepD I w (us i j) xs[i][j]) :
      RepD I w (.slice (some ⟨b,off,none⟩) xs.length cap) (.sl xs)
  | ptr (b o:Nat) (cs:List D) (us:Nat->Value) (hI:∀j,j<cs.length->I b (o+j))
      (hc:∀j,j<cs.length->w.cell? ⟨b,o+j,none⟩=some (us j))
      (h:∀j (hj:j<cs.length),RepD I w (us j) cs[j]):RepD I w (.pointer (some ⟨b,o,none⟩)) (.ptr cs)
  | nilp:RepD I w (.pointer none) .nilp
  | nils (a:Option Addr):RepD I w (.slice a 0 0) .nils
  | wild0 (a:Option Addr) (cap sz:Nat):RepD I w (.slice a 0 cap) (.wild sz 0)
  | wild (b off cap sz len m:Nat) (ht:thawB w b) (hm:I b m) (hf:∀o,off<=o->o<off+len*sz->¬I b o) (hb:off+len*sz<=bsize w b):RepD I w (.slice (some ⟨b,off,none⟩) len cap) (.wild sz len)
  | wildp (b off k m:Nat) (ht:thawB w b) (hm:I b m) (hf:∀o,off<=o->o<off+k->¬I b o) (hb:off+k<=bsize w b):RepD I w (.pointer (some ⟨b,off,none⟩)) (.wildp k)
inductive RepV (G:Gh) (w:World):Value->V->Prop
  | d {v:Value} {x:D} (h:RepD G.imm w v x):RepV G w v (.d x)
  | nil (a:Option Addr):RepV G w (.slice a 0 0) .nil
  | nilm:RepV G w (.map none) .nilm
  | nili:RepV G w .nilIface .nili
  | ref {n:Nm} {b o sz:Nat} (i j:Nat) (h:G.mu n=some (b,o,sz)):RepV G w (.pointer (some ⟨b,o+i*sz+j,none⟩)) (.ref n i j)
  | vs0 (n:Nm) (sz k:Nat) (a:Option Addr):RepV G w (.slice a 0 0) (.vs n sz k 0)
  | vs {n:Nm} {b o sz:Nat} (k len cap:Nat) (h:G.mu n=some (b,o,sz)) (hc:len<=cap) (hb:o+(k+cap)*sz<=bsize w b) :
      RepV G w (.slice (some ⟨b,o+k*sz,none⟩) len cap) (.vs n sz k len)
  | fn (f:FuncId) (arr:List Value) (vs:List V) (hl:arr.length=vs.length)
      (h:∀i (h1:i<arr.length) (h2:i<vs.length),RepV G w arr[i] vs[i]) (hb:Nat.blt f 1000000000=true\/vs=[]):RepV G w (.func (.func f) #[] arr.toArray) (.fn f vs)
  | fnb (f:FuncId) (a:Value) (v:V) (h:RepV G w a v):RepV G w (.func (.func f) #[a] #[]) (.fn (f+1000000000) [v])
  | agg (arr:List Value) (vs:List V) (hl:arr.length=vs.length)
      (h:∀i (h1:i<arr.length) (h2:i<vs.length),RepV G w arr[i] vs[i]):RepV G w (.agg arr.toArray) (.agg vs)
  | tup (arr:List Value) (vs:List V) (hl:arr.length=vs.length)
      (h:∀i (h1:i<arr.length) (h2:i<vs.length),RepV G w arr[i] vs[i]):RepV G w (.tuple arr.toArray) (.tup vs)
  | map {n:Nm} {b o sz:Nat} (h:G.mu n=some (b,o,sz)):RepV G w (.map (some b)) (.map n)
  | none:RepV G w undef .none
  | any (v:Value):RepV G w v .any
def elemAt (w:World) (b:Nat):Option TypeId:=match w.heap[b]? with | some (.cells _ e _)=>some e | _=>none
theorem fJ {w:World} {b:Nat} {arr:Array Value} {e:TypeId} {sh:_} (h:w.heap[b]? = some (.cells arr e sh)):elemAt w b=some e:=by unfold elemAt;rw [h]
theorem uf {w w':World} {b:Nat} (h:w'.heap[b]? = w.heap[b]?):elemAt w' b=elemAt w b:=by unfold elemAt;rw [h]
structure Ext (G:Gh) (w:World) (G':Gh) (w':World):Prop where
  imm:∀b o,G.imm b o->G'.imm b o
  cell:∀b o,G.imm b o->w'.cell? ⟨b,o,Option.none⟩=w.cell? ⟨b,o,Option.none⟩
  mu:∀n x,G.mu n=some x->G'.mu n=some x
  size:∀b,bsize w b<=bsize w' b
  elem:∀b e,elemAt w b=some e->elemAt w' b=some e
  map:∀b arr clk,(∃o,G.imm b o)->w.heap[b]? = some (.map arr clk)->w'.heap[b]? = some (.map arr clk)
  still:∀b o m,G.imm b m->G'.imm b o->G.imm b o
  thaw:∀b m,G.imm b m->thawB w b->thawB w' b
theorem Ext.refl (G:Gh) (w:World):Ext G w G w:=⟨λ_ _ h=>h,λ_ _ _=>rfl,λ_ _ h=>h,λ_=>Nat.le_refl _,λ_ _ h=>h,λ_ _ _ _ h=>h,λ_ _ _ _ h=>h,λ_ _ _ h=>h⟩
theorem Ext.trans {G G' G'':Gh} {w w' w'':World} (h:Ext G w G' w') (k:Ext G' w' G'' w''):Ext G w G'' w'' :=
  ⟨λb o x=>k.imm b o (h.imm b o x),λb o x=>(k.cell b o (h.imm b o x)).trans (h.cell b o x),λn x e=>k.mu n x (h.mu n x e),
   λb=>Nat.le_trans (h.size b) (k.size b),λb e x=>k.elem b e (h.elem b e x),λb arr clk ⟨o,x⟩ e=>k.map b arr clk ⟨o,h.imm b o x⟩ (h.map b arr clk ⟨o,x⟩ e),
   λb o m x y=>h.still b o m x (k.still b o m (h.imm b m x) y),λb m x y=>k.thaw b m (h.imm b m x) (h.thaw b m x y)⟩
theorem Ext.sizeI {G G':Gh} {w w':World} (e:Ext G w G' w'):∀b m,G.imm b m->bsize w b<=bsize w' b/\(thawB w b->thawB w' b):=λb m h=>⟨e.size b,e.thaw b m h⟩
theorem RepD.ext {I I':Nat->Nat->Prop} {w w':World} {v:Value} {x:D} (h:RepD I w v x) (hI:∀b o,I b o->I' b o)
    (hc:∀b o,I b o->w'.cell? ⟨b,o,Option.none⟩=w.cell? ⟨b,o,Option.none⟩) (hs:∀b o m,I b m->I' b o->I b o) (hz:∀b m,I b m->bsize w b<=bsize w' b/\(thawB w b->thawB w' b)):RepD I' w' v x:=by
  induction h with
  | int k n=>exact .int k n
  | bool b=>exact .bool b
  | str s=>exact .str s
  | agg arr ds hl _ ih=>exact .agg arr ds hl ih
  | sl0 a cap=>exact .sl0 a cap
  | sl b off cap sz xs us hcap hsz hI' hc' ho _ ih =>
    exact .sl b off cap sz xs us hcap hsz (λi j hi hj=>hI _ _ (hI' i j hi hj)) (λi j hi hj=>(hc _ _ (hI' i j hi hj)).trans (hc' i j hi hj)) ho ih
  | nilp=>exact .nilp
  | ptr b o cs us hI' hc' _ ih=>exact .ptr b o cs us (λj hj=>hI _ _ (hI' j hj)) (λj hj=>(hc _ _ (hI' j hj)).trans (hc' j hj)) ih
  | nils a=>exact .nils a
  | wild0 a cap sz=>exact .wild0 a cap sz
  | wild b off cap sz len m ht hm hf hb=>exact .wild b off cap sz len m ((hz b m hm).2 ht) (hI _ _ hm) (λo h1 h2 h=>hf o h1 h2 (hs b o m hm h)) (Nat.le_trans hb (hz b m hm).1)
  | wildp b off k m ht hm hf hb=>exact .wildp b off k m ((hz b m hm).2 ht) (hI _ _ hm) (λo h1 h2 h=>hf o h1 h2 (hs b o m hm h)) (Nat.le_trans hb (hz b m hm).1)
theorem RepV.ext {G G':Gh} {w w':World} {v:Value} {x:V} (h:RepV G w v x) (e:Ext G w G' w'):RepV G' w' v x:=by
  induction h with
  | d h=>exact .d (h.ext e.imm e.cell e.still e.sizeI)
  | nil a=>exact .nil a
  | nilm=>exact .nilm
  | nili=>exact .nili
  | ref i j h=>exact .ref i j (e.mu _ _ h)
  | vs0 n sz k a=>exact .vs0 n sz k a
  | vs k len cap h hc hb=>exact .vs k len cap (e.mu _ _ h) hc (Nat.le_trans hb (e.size _))
  | fn f arr vs hl _ hb ih=>exact .fn f arr vs hl ih hb
  | fnb f a v _ ih=>exact .fnb f a v ih
  | agg arr vs hl _ ih=>exact .agg arr vs hl ih
  | tup arr vs hl _ ih=>exact .tup arr vs hl ih
  | map h=>exact .map (e.mu _ _ h)
  | none=>exact .none
  | any v=>exact .any v
def Box.all:Box->List V
  | .vec _ xs | .froz _ xs=>(xs.map λx=>x.map V.d).flatten
  | .cells _ cs=>cs
  | _=>[]
def Box.sz:Box->Nat
  | .vec sz _ | .froz sz _ | .cells sz _=>sz
  | _=>0
def Box.row:Box->Bool
  | .vec _ _ | .froz _ _ | .cells _ _=>true
  | _=>false
def Box.even:Box->Prop
  | .vec sz xs | .froz sz xs=>∀x∈xs,x.length=sz
  | _=>True
def Box.mut:Box->Bool
  | .froz _ _=>false
  | _=>true
def bldB (w:World) (t b:Nat):Prop:=∃p v,w.heap[b]? = some (.cells #[p,v] t (0,0))/\(p = .pointer none\/p = .pointer (some ⟨b,0,none⟩))/\(v = .slice none 0 0\/∃g n cap,v = .slice (some ⟨g,0,none⟩) n cap/\0<cap/\elemAt w g=some byteK)
def celB (w:World) (bx:Box) (b o:Nat):Prop:=match bx with
  | .cells s _=>(s=1\/1048576<=s->o=0)/\(1048576<=s->bldB w (s-1048576) b)
  | _=>True
def celK (bx bx':Box) (off:Nat):Prop:=match bx' with
  | .cells s _=>(∃cs0,bx = .cells s cs0)/\s<1048576
  | _=>True
theorem celB.ext {w w':World} {bx:Box} {b o:Nat} (h:celB w bx b o) (hb:bx.mut=true->w'.heap[b]? = w.heap[b]?) (he:∀b e,elemAt w b=some e->elemAt w' b=some e):celB w' bx b o:=by
  cases bx with
  | cells s cs =>
    refine⟨h.1,λhs => ?_⟩
    obtain ⟨p,v,h1,h2,h3⟩:=h.2 hs
    exact⟨p,v,(hb rfl).trans h1,h2,h3.imp id fun⟨g,n,cap,k1,k2,k3⟩=>⟨g,n,cap,k1,k2,he _ _ k3⟩⟩
  | _=>exact trivial
structure Stands (G:Gh) (w:World) (bx:Box) (b o sz:Nat):Prop where
  sz:sz=bx.sz
  even:bx.even
  room:o+bx.all.length<=bsize w b
  cell:∀j (h:j<bx.all.length),∃u,w.cell? ⟨b,o+j,none⟩=some u/\u.oneCell'=true/\RepV G w u bx.all[j]
  free:bx.mut=true->(∃arr elem,w.heap[b]? = some (.cells arr elem (0,0)))/\∀o',¬G.imm b o'
  froz:bx.mut=false->∀j,j<bx.all.length->G.imm b (o+j)
  cel:celB w bx b o:=by exact trivial
def KF (G:Gh) (w:World) (es:List (D×D)) (b:Nat):Prop :=
  (∀o',¬G.imm b o')/\∃arr clock,(w.heap[b]? = some (.map arr clock)/\MapKept.Stamped arr clock)/\arr.size=es.length /\
    ∀i (h1:i<arr.size) (h2:i<es.length),RepD G.imm w arr[i].key es[i].1/\RepD G.imm w arr[i].val es[i].2
def Hl (G:Gh) (w:World) (es:List (D×V)) (b:Nat):Prop :=
  (∀o',¬G.imm b o')/\∃arr clock,(w.heap[b]? = some (.map arr clock)/\MapKept.Stamped arr clock)/\arr.size=es.length /\
    ∀i (h1:i<arr.size) (h2:i<es.length),RepD G.imm w arr[i].key es[i].1/\RepV G w arr[i].val es[i].2
def jG (arr:Array MapEntry) (seen:Array Nat):List MapEntry:=arr.toList.filter λe => !seen.contains e.born
def ww (G:Gh) (w:World) (cur:Option (D×V)) (left:List (D×V)) (b o:Nat):Prop :=
  (o=0/\∀o',¬G.imm b o')/\∃mb arr clock seen,w.heap[b]? = some (.mapIter (some mb) clock seen clock)/\(∃o,G.imm mb o)/\w.heap[mb]? = some (.map arr clock)/\MapKept.Stamped arr clock /\
    (jG arr seen).length=left.length/\(∀i (h1:i<(jG arr seen).length) (h2:i<left.length),RepD G.imm w (jG arr seen)[i].key left[i].1/\RepV G w (jG arr seen)[i].val left[i].2) /\
    ∀x,cur=some x->∃e∈arr.toList,(∃s0:Array Nat,seen=s0.push e.born)/\RepD G.imm w e.key x.1/\RepV G w e.val x.2
def StandsBox (G:Gh) (w:World) (bx:Box) (b o sz:Nat):Prop:=match bx with
  | .map es=>KF G w es b
  | .pmap es=>Hl G w es b
  | .iter cur left=>ww G w cur left b o
  | bx=>Stands G w bx b o sz
def Kn (G:Gh) (w:World):Prop:=∃w0:World,tu w0/\∀b o,b<w0.heap.size->G.imm b o/\w.cell? ⟨b,o,Option.none⟩=w0.cell? ⟨b,o,Option.none⟩
theorem Kn.ext {G G':Gh} {w w':World} (h:Kn G w) (hI:∀b o,G.imm b o->G'.imm b o) (hc:∀b o,G.imm b o->w'.cell? ⟨b,o,Option.none⟩=w.cell? ⟨b,o,Option.none⟩):Kn G' w':=by
  obtain ⟨w0,h1,h2⟩:=h
  exact⟨w0,h1,λb o hb=>⟨hI _ _ (h2 b o hb).1,(hc _ _ (h2 b o hb).1).trans (h2 b o hb).2⟩⟩
def Wm (G:Gh) (w:World) (b:Nat):Prop:=(∃m,G.imm b m)/\∃o,o<bsize w b/\¬G.imm b o
def Gh.whole (G:Gh):Gh:=⟨λb _=>∃m,G.imm b m,λ_=>none⟩
theorem LJ (G:Gh) (w:World) (b:Nat):¬Wm G.whole w b:=fun⟨⟨_,m,h1⟩,_,_,h2⟩=>h2 ⟨m,h1⟩
def nwD:Nat->D->Bool
  | 0,_=>false
  | n+1,.agg ds=>ds.all (nwD n)
  | n+1,.sl xs=>xs.all λx=>x.all (nwD n)
  | n+1,.ptr cs=>cs.all (nwD n)
  | _+1,.wild _ _=>false
  | _+1,.wildp _=>false
  | _+1,_=>true
theorem RepD.whole {I:Nat->Nat->Prop} {w w':World} {v:Value} {x:D} (h:RepD I w v x) (hc:∀b o,I b o->w'.cell? ⟨b,o,Option.none⟩=w.cell? ⟨b,o,Option.none⟩):∀n,nwD n x=true->RepD (λb _=>∃m,I b m) w' v x:=by
  induction h with
  | int k n=>exact λ_ _ => .int k n
  | bool b=>exact λ_ _ => .bool b
  | str s=>exact λ_ _ => .str s
  | agg arr ds hl _ ih =>
    intro n hn
    cases n with
    | zero=>cases hn
    | succ n =>
      simp only [nwD,List.all_eq_true]at hn
      exact .agg arr ds hl (λi h1 h2=>ih i h1 h2 n (hn _ (List.getElem_mem h2)))
  | sl0 a cap=>exact λ_ _ => .sl0 a cap
  | sl b off cap sz xs us hcap hsz hI' hc' ho _ ih =>
    intro n hn
    cases n with
    | zero=>cases hn
    | succ n =>
      simp only [nwD,List.all_eq_true]at hn
      exact .sl b off cap sz xs us hcap hsz (λi j hi hj=>⟨_,hI' i j hi hj⟩) (λi j hi hj=>(hc _ _ (hI' i j hi hj)).trans (hc' i j hi hj)) ho (λi j hi hj=>ih i j hi hj n (hn _ (List.getElem_mem hi) _ (List.getElem_mem hj)))
  | nilp=>exact λ_ _ => .nilp
  | ptr b o cs us hI' hc' _ ih =>
    intro n hn
    cases n with
    | zero=>cases hn
    | succ n =>
      simp only [nwD,List.all_eq_true]at hn
      exact .ptr b o cs us (λj hj=>⟨_,hI' j hj⟩) (λj hj=>(hc _ _ (hI' j hj)).trans (hc' j hj)) (λj hj=>ih j hj n (hn _ (List.getElem_mem hj)))
  | nils a=>exact λ_ _ => .nils a
  | wild0 a cap sz=>intro n hn;cases n <;> cases hn
  | wild b off cap sz len m ht hm hf hb=>intro n hn;cases n <;> cases hn
  | wildp b off k m ht hm hf hb=>intro n hn;cases n <;> cases hn
structure Env where
  G:Gh
  w:World
  M:Nat->Prop
structure Inv (E:Env) (G:Gh) (w:World) (S:Store) (tk:Nat) (U:Nat->Prop):Prop where
  ext:Ext E.G E.w G w
  newI:∀b o,G.imm b o->E.G.imm b o\/E.w.heap.size<=b\/E.M b
  frame:∀b,b<E.w.heap.size->¬E.M b->¬Wm E.G E.w b->w.heap[b]? = E.w.heap[b]?
  size:E.w.heap.size<=w.heap.size
  os:w.os=E.w.os
  tape:w.tape=E.w.tape
  output:w.output=E.w.output
  box:∀n bx,S n=some bx->∃b o sz,G.mu n=some (b,o,sz)/\StandsBox G w bx b o sz/\(bx.mut=true->E.w.heap.size<=b\/E.M b)
  one:∀n m bx by' b o sz o' sz',S n=some bx->S m=some by'->bx.mut=true->G.mu n=some (b,o,sz)->G.mu m=some (b,o',sz')->n=m
  tick:∀n x,G.mu n=some x->n.2<tk\/(n.2=tk/\U n.1)
  bound:∀n b o sz,G.mu n=some (b,o,sz)->b<w.heap.size
  immB:∀b o,G.imm b o->b<w.heap.size
  kn:Kn E.G E.w
  dr:dmK=true->E.w.drawn<=w.drawn
end Go.Eng

/-
  THE ENGINE: the steps of memory: a new row that is never written, a new box, a box that is written, frozen.
-/
namespace Go.Eng
set_option linter.unusedSectionVars false
variable [DM]
theorem rH {w w':World} {b:Nat} (h:w'.heap[b]? = w.heap[b]?) (o:Nat):w'.cell? ⟨b,o,none⟩=w.cell? ⟨b,o,none⟩:=by
  simp [World.cell?,h]
theorem rV {w w':World} {b:Nat} (h:w'.heap[b]? = w.heap[b]?):bsize w' b=bsize w b:=by
  simp [bsize,h]
theorem alloc_old (w:World) (o:Obj) {b:Nat} (h:b<w.heap.size):(w.alloc o).heap[b]? = w.heap[b]? := by
  simp only [World.alloc,Array.getElem?_push];rw [if_neg (by omega)]
theorem fI (w:World) (o:Obj):(w.alloc o).heap[w.heap.size]? = some o:=by
  show (w.heap.push o)[w.heap.size]? = some o
  simp
theorem Du (w:World) {b:Nat} (h:w.heap.size<=b):w.heap[b]? = none:=by simp [h]
theorem Ky (w:World) {b:Nat} (h:w.heap.size<=b):bsize w b=0:=by simp [bsize,Du w h]
theorem tX {G G':Gh} {w w':World} (hi:∀b o,G.imm b o->G'.imm b o) (hb:∀b o,G.imm b o->b<w.heap.size)
    (hm:∀n x,G.mu n=some x->G'.mu n=some x) (hh:∀b,b<w.heap.size->(w'.heap[b]? = w.heap[b]? \/ ((∀o,¬G.imm b o)/\bsize w b<=bsize w' b/\∀e,elemAt w b=some e->elemAt w' b=some e))) (hs:∀b o m,G.imm b m->G'.imm b o->G.imm b o:=by intro b o m h k;exact k) :
    Ext G w G' w' where
  still:=hs
  thaw b m hm ht:=by
    rcases hh b (hb b m hm)with e|e
    · exact Ai e ht
    · exact absurd hm (e.1 m)
  imm:=hi
  cell b o h:=by
    rcases hh b (hb b o h)with e|e
    · exact rH e o
    · exact absurd h (e.1 o)
  mu:=hm
  size b:=by
    rcases Nat.lt_or_ge b w.heap.size with h|h
    · rcases hh b h with e | e
      · rw [rV e];exact Nat.le_refl _
      · exact e.2.1
    · rw [Ky w h];exact Nat.zero_le _
  elem b e he:=by
    rcases Nat.lt_or_ge b w.heap.size with h|h
    · rcases hh b h with k | k
      · rw [uf k];exact he
      · exact k.2.2 e he
    · unfold elemAt at he;rw [Du w h]at he;cases he
  map b arr clk:=fun⟨o,h⟩ e=>by
    rcases hh b (hb b o h)with k|k
    · rw [k];exact e
    · exact absurd h (k.1 o)
theorem Stands.ext {G G':Gh} {w w':World} {bx:Box} {b o sz:Nat} (h:Stands G w bx b o sz) (e:Ext G w G' w')
    (hb:bx.mut=true->w'.heap[b]? = w.heap[b]?) (hn:bx.mut=true->∀o',G'.imm b o'->G.imm b o'):Stands G' w' bx b o sz where
  sz:=h.sz
  even:=h.even
  room:=Nat.le_trans h.room (e.size b)
  cell j hj:=by
    obtain ⟨u,hu,h1,hr⟩:=h.cell j hj
    cases hm:bx.mut with
    | true=>exact⟨u,by rw [rH (hb hm)];exact hu,h1,hr.ext e⟩
    | false=>exact⟨u,by rw [e.cell b (o+j) (h.froz hm j hj)];exact hu,h1,hr.ext e⟩
  free hm:=by
    obtain ⟨⟨arr,elem,ha⟩,hf⟩:=h.free hm
    exact⟨⟨arr,elem,by rw [hb hm];exact ha⟩,λo' ho'=>hf o' (hn hm o' ho')⟩
  froz hm j hj:=e.imm _ _ (h.froz hm j hj)
  cel:=h.cel.ext hb e.elem
theorem StandsBox.noimm {G:Gh} {w:World} {bx:Box} {b o sz:Nat} (h:StandsBox G w bx b o sz) (hm:bx.mut=true):∀o',¬G.imm b o':=by
  cases bx with
  | map es=>exact h.1
  | pmap es=>exact h.1
  | iter cur left=>exact h.1.2
  | vec sz' xs=>exact (Stands.free h hm).2
  | froz sz' xs=>exact (Stands.free h hm).2
  | cells sz' cs=>exact (Stands.free h hm).2
theorem StandsBox.ext {G G':Gh} {w w':World} {bx:Box} {b o sz:Nat} (h:StandsBox G w bx b o sz) (e:Ext G w G' w')
    (hb:bx.mut=true->w'.heap[b]? = w.heap[b]?) (hn:bx.mut=true->∀o',G'.imm b o'->G.imm b o'):StandsBox G' w' bx b o sz:=by
  cases bx with
  | map es =>
    obtain ⟨h0,arr,clock,h1,h2,h3⟩:=h
    refine⟨λo' ho'=>h0 o' (hn rfl o' ho'),arr,clock,⟨by rw [hb rfl];exact h1.1,h1.2⟩,h2,λi a c => ?_⟩
    obtain ⟨h4,h5⟩:=h3 i a c
    exact⟨h4.ext e.imm e.cell e.still e.sizeI,h5.ext e.imm e.cell e.still e.sizeI⟩
  | pmap es =>
    obtain ⟨h0,arr,clock,h1,h2,h3⟩:=h
    refine⟨λo' ho'=>h0 o' (hn rfl o' ho'),arr,clock,⟨by rw [hb rfl];exact h1.1,h1.2⟩,h2,λi a c => ?_⟩
    obtain ⟨h4,h5⟩:=h3 i a c
    exact⟨h4.ext e.imm e.cell e.still e.sizeI,h5.ext e⟩
  | iter cur left =>
    obtain ⟨h0,mb,arr,clock,seen,h1,⟨oi,hi⟩,h2,h3,h4,h5,h6⟩:=h
    refine⟨⟨h0.1,λo' ho'=>h0.2 o' (hn rfl o' ho')⟩,mb,arr,clock,seen,by rw [hb rfl];exact h1,⟨oi,e.imm _ _ hi⟩,e.map _ _ _ ⟨oi,hi⟩ h2,h3,h4,λi a c => ?_,λx hx => ?_⟩
    · exact⟨(h5 i a c).1.ext e.imm e.cell e.still e.sizeI,(h5 i a c).2.ext e⟩
    · obtain ⟨en,k1,k2,k3,k4⟩:=h6 x hx
      exact⟨en,k1,k2,k3.ext e.imm e.cell e.still e.sizeI,k4.ext e⟩
  | vec sz xs=>exact Stands.ext h e hb hn
  | froz sz xs=>exact Stands.ext h e hb hn
  | cells sz xs=>exact Stands.ext h e hb hn
theorem Inv.more {E:Env} {G G':Gh} {w w':World} {S:Store} {tk:Nat} {U U':Nat->Prop} (h:Inv E G w S tk U)
    (hh:∀b,b<w.heap.size->w'.heap[b]? = w.heap[b]?) (hs:w.heap.size<=w'.heap.size)
    (hos:w'.os=w.os) (ht:w'.tape=w.tape) (ho:w'.output=w.output)
    (hi:∀b o,G.imm b o->G'.imm b o) (hn:∀b o,G'.imm b o->G.imm b o\/(w.heap.size<=b/\b<w'.heap.size)) (hm:G'.mu=G.mu) (hU:∀n,U n->U' n) (hdr:dmK=true->w.drawn<=w'.drawn:=by intro _;first | exact Nat.le_refl _ | (simp;done) | (simp;omega)) :
    Inv E G' w' S tk U'/\Ext G w G' w':=by
  have e:Ext G w G' w':=tX hi h.immB (λn x hx=>by rw [hm];exact hx) (λb hb => .inl (hh b hb)) (λb o m h1 h2=>(hn b o h2).resolve_right (by have:=h.immB b m h1;omega))
  refine⟨⟨h.ext.trans e,?_,?_,Nat.le_trans h.size hs,hos.trans h.os,ht.trans h.tape,ho.trans h.output,?_,?_,?_,?_,?_,h.kn,λk=>Nat.le_trans (h.dr k) (hdr k)⟩,e⟩
  · intro b o hb
    rcases hn b o hb with hb|hb
    · exact h.newI b o hb
    · exact .inr (.inl (Nat.le_trans h.size hb.1))
  · intro b hb hM hW
    rw [hh b (Nat.lt_of_lt_of_le hb h.size)];exact h.frame b hb hM hW
  · intro n bx hbx
    obtain ⟨b,o,sz,h1,h2,h3⟩:=h.box n bx hbx
    have hb:=h.bound n b o sz h1
    exact⟨b,o,sz,by rw [hm];exact h1,h2.ext e (λ_=>hh b hb) (λ_ o' ho'=>(hn b o' ho').resolve_right (by omega)),h3⟩
  · intro n m bx by' b o sz o' sz' a1 a2 a3 a4 a5
    rw [hm]at a4 a5
    exact h.one n m bx by' b o sz o' sz' a1 a2 a3 a4 a5
  · intro n x hx
    rw [hm]at hx
    exact (h.tick n x hx).imp id (fun⟨a,c⟩=>⟨a,hU _ c⟩)
  · intro n b o sz hx
    rw [hm]at hx
    exact Nat.lt_of_lt_of_le (h.bound n b o sz hx) hs
  · intro b o hb
    rcases hn b o hb with hb|hb
    · exact Nat.lt_of_lt_of_le (h.immB b o hb) hs
    · exact hb.2
theorem Inv.allocImm {E:Env} {G:Gh} {w:World} {S:Store} {tk:Nat} {U U':Nat->Prop} (h:Inv E G w S tk U) (arr:Array Value) (elem:TypeId) (hU:∀n,U n->U' n) :
    Inv E ⟨λb o=>G.imm b o\/(b=w.heap.size/\o<arr.size),G.mu⟩ (w.alloc (.cells arr elem)) S tk U' /\
    Ext G w ⟨λb o=>G.imm b o\/(b=w.heap.size/\o<arr.size),G.mu⟩ (w.alloc (.cells arr elem)) :=
  h.more (λ_ hb=>alloc_old w _ hb) (by simp) rfl rfl rfl (λ_ _ h => .inl h)
    (λb o hb=>hb.imp id (fun⟨e,_⟩=>by subst e;exact⟨Nat.le_refl _,by simp⟩)) rfl hU
theorem Inv.allocBox {E:Env} {G:Gh} {w:World} {S:Store} {tk:Nat} {U:Nat->Prop} (h:Inv E G w S tk U) (dst:Nat) (hd:¬U dst)
    (o:Obj) (bx:Box)
    (hst:∀G',(∀b o,G'.imm b o↔G.imm b o)->Ext G w G' (w.alloc o)->StandsBox G' (w.alloc o) bx w.heap.size 0 bx.sz) :
    Inv E ⟨G.imm,λm=>if m=(dst,tk)then some (w.heap.size,0,bx.sz)else G.mu m⟩ (w.alloc o) (supd S (dst,tk) (some bx)) tk (λu=>U u\/u=dst) /\
    Ext G w ⟨G.imm,λm=>if m=(dst,tk)then some (w.heap.size,0,bx.sz)else G.mu m⟩ (w.alloc o):=by
  have hnew:G.mu (dst,tk)=none:=by
    cases hx:G.mu (dst,tk)with
    | none=>rfl
    | some x => rcases h.tick _ _ hx with h1 | ⟨_, h1⟩
                · exact absurd h1 (Nat.lt_irrefl _)
                · exact absurd h1 hd
  have e:Ext G w ⟨G.imm,λm=>if m=(dst,tk)then some (w.heap.size,0,bx.sz)else G.mu m⟩ (w.alloc o) :=
    tX (λ_ _ h=>h) h.immB (λn x hx=>by
      show (if n=(dst,tk)then _ else G.mu n)=_
      rw [if_neg (λe=>by rw [e,hnew]at hx;cases hx)];exact hx) (λb hb => .inl (alloc_old w _ hb))
  refine⟨⟨h.ext.trans e,h.newI,?_,Nat.le_trans h.size (by simp),h.os,h.tape,h.output,?_,?_,?_,?_,?_,h.kn,h.dr⟩,e⟩
  · intro b hb hM hW
    rw [alloc_old w _ (Nat.lt_of_lt_of_le hb h.size)];exact h.frame b hb hM hW
  · intro n by' hby
    by_cases hn:n=(dst,tk)
    · subst hn
      simp only [supd,if_true,so_]at hby
      subst hby
      exact⟨w.heap.size,0,bx.sz,by simp,hst _ (λ_ _=>Iff.rfl) e,λ_ => .inl h.size⟩
    · simp only [supd,hn,if_false]at hby
      obtain ⟨b,o',sz,h1,h2,h3⟩:=h.box n by' hby
      have hb:=h.bound n b o' sz h1
      exact⟨b,o',sz,by simp [hn,h1],h2.ext e (λ_=>alloc_old w _ hb) (λ_ _ h=>h),h3⟩
  · intro n m bx1 by1 b o1 sz1 o2 sz2 a1 a2 a3 a4 a5
    simp only at a4 a5
    by_cases hn:n=(dst,tk)
    · by_cases hm:m=(dst,tk)
      · rw [hn,hm]
      · simp only [hn,if_true,so_,Prod.mk.injEq]at a4
        simp only [hm,if_false]at a5
        have:=h.bound _ _ _ _ a5
        omega
    · by_cases hm:m=(dst,tk)
      · simp only [hm,if_true,so_,Prod.mk.injEq]at a5
        simp only [hn,if_false]at a4
        have:=h.bound _ _ _ _ a4
        omega
      · simp only [hn,hm,if_false]at a4 a5
        simp only [supd,hn,hm,if_false]at a1 a2
        exact h.one n m bx1 by1 b o1 sz1 o2 sz2 a1 a2 a3 a4 a5
  · intro n x hx
    simp only at hx
    by_cases hn:n=(dst,tk)
    · subst hn;exact .inr ⟨rfl,.inr rfl⟩
    · simp only [hn,if_false]at hx
      exact (h.tick n x hx).imp id (fun⟨a,c⟩=>⟨a,.inl c⟩)
  · intro n b o1 sz1 hx
    simp only at hx
    by_cases hn:n=(dst,tk)
    · simp only [hn,if_true,so_,Prod.mk.injEq]at hx
      simp;omega
    · simp only [hn,if_false]at hx
      have:=h.bound n b o1 sz1 hx
      simp;omega
  · intro b o1 hb
    have:=h.immB b o1 hb
    simp;omega
theorem Inv.write {E:Env} {G:Gh} {w w':World} {S:Store} {tk:Nat} {U:Nat->Prop} (h:Inv E G w S tk U) {n:Nm} {bx:Box} {b o sz:Nat}
    (hS:S n=some bx) (hmut:bx.mut=true) (hmu:G.mu n=some (b,o,sz))
    (hh:∀b',b'≠b->w'.heap[b']? = w.heap[b']?) (hsz:w'.heap.size=w.heap.size) (hbs:bsize w b<=bsize w' b) (hel:∀e,elemAt w b=some e->elemAt w' b=some e) (hnoimm:∀o',¬G.imm b o')
    (hos:w'.os=w.os) (ht:w'.tape=w.tape) (ho:w'.output=w.output)
    (bx':Box) (hst:Ext G w G w'->StandsBox G w' bx' b o sz) (hdr:dmK=true->w.drawn<=w'.drawn:=by intro _;first | exact Nat.le_refl _ | (simp;done) | (simp;omega)) :
    Inv E G w' (supd S n (some bx')) tk U/\Ext G w G w':=by
  have e:Ext G w G w':=tX (λ_ _ h=>h) h.immB (λ_ _ h=>h) (λb' _=>by
    by_cases hb:b'=b
    · subst hb;exact .inr ⟨hnoimm,hbs,hel⟩
    · exact .inl (hh b' hb))
  obtain ⟨b₁,o₁,sz₁,k1,k2,k3⟩:=h.box n bx hS
  rw [hmu]at k1
  simp only [so_,Prod.mk.injEq]at k1
  obtain ⟨rfl,rfl,rfl⟩:=k1
  refine⟨⟨h.ext.trans e,h.newI,?_,by rw [hsz];exact h.size,hos.trans h.os,ht.trans h.tape,ho.trans h.output,?_,?_,h.tick,?_,?_,h.kn,λk=>Nat.le_trans (h.dr k) (hdr k)⟩,e⟩
  · intro b' hb hM hW
    rw [hh b' (λhx=>by subst hx;rcases k3 hmut with h1 | h1;exact absurd hb (by omega);exact hM h1)]
    exact h.frame b' hb hM hW
  · intro m by' hby
    by_cases hm:m=n
    · subst hm
      simp only [supd,if_true,so_]at hby
      subst hby
      exact⟨b,o,sz,hmu,hst e,λ_=>k3 hmut⟩
    · simp only [supd,hm,if_false]at hby
      obtain ⟨b',o',sz',h1,h2,h3⟩:=h.box m by' hby
      have hne:b'≠b:=λhx=>by subst hx;exact hm (h.one n m bx by' b' o sz o' sz' hS hby hmut hmu h1).symm
      exact⟨b',o',sz',h1,h2.ext e (λ_=>hh b' hne) (λ_ _ h=>h),h3⟩
  · intro n1 m1 bx1 by1 b1 o1 sz1 o2 sz2 a1 a2 a3 a4 a5
    have get:∀{m by'},supd S n (some bx') m=some by'->∃by'',S m=some by''/\(by'.mut=true->by''.mut=true):=by
      intro m by' hx
      by_cases hm:m=n
      · subst hm;exact⟨bx,hS,λ_=>hmut⟩
      · simp only [supd,hm,if_false]at hx;exact⟨by',hx,id⟩
    obtain ⟨bx2,c1,c2⟩:=get a1
    obtain ⟨by2,c3,_⟩:=get a2
    exact h.one n1 m1 bx2 by2 b1 o1 sz1 o2 sz2 c1 c3 (c2 a3) a4 a5
  · intro m b' o' sz' hx;rw [hsz];exact h.bound m b' o' sz' hx
  · intro b' o' hb;rw [hsz];exact h.immB b' o' hb
theorem Inv.freeze {E:Env} {G:Gh} {w:World} {S:Store} {tk:Nat} {U:Nat->Prop} (h:Inv E G w S tk U) {n:Nm} {sz:Nat} {xs:List (List D)} {b o:Nat}
    (hS:S n=some (.vec sz xs)) (hmu:G.mu n=some (b,o,sz)) :
    Inv E ⟨λb' o'=>G.imm b' o'\/b'=b,G.mu⟩ w (supd S n (some (.froz sz xs))) tk U /\
    Ext G w ⟨λb' o'=>G.imm b' o'\/b'=b,G.mu⟩ w:=by
  obtain ⟨b₁,o₁,sz₁,k1,k2,k3⟩:=h.box n _ hS
  rw [hmu]at k1
  simp only [so_,Prod.mk.injEq]at k1
  obtain ⟨rfl,rfl,rfl⟩:=k1
  have k2':Stands G w (.vec sz xs) b o sz:=k2
  have e:Ext G w ⟨λb' o'=>G.imm b' o'\/b'=b,G.mu⟩ w :=
    tX (λ_ _ h => .inl h) h.immB (λ_ _ h=>h) (λ_ _ => .inl rfl) (λb' o' m h1 h2=>h2.resolve_right (λh3=>(k2'.free rfl).2 m (h3 ▸ h1)))
  refine⟨⟨h.ext.trans e,?_,h.frame,h.size,h.os,h.tape,h.output,?_,?_,h.tick,h.bound,?_,h.kn,h.dr⟩,e⟩
  · intro b' o' hb
    rcases hb with hb|rfl
    · exact h.newI b' o' hb
    · exact .inr (k3 rfl)
  · intro m by' hby
    by_cases hm:m=n
    · subst hm
      simp only [supd,if_true,so_]at hby
      subst hby
      refine⟨b,o,sz,hmu,?_,λhx=>by cases hx⟩
      exact { sz := k2'.sz, even := k2'.even, room := k2'.room, cell := fun j hj => by
                obtain ⟨u,hu,h1,hr⟩:=k2'.cell j hj
                exact⟨u,hu,h1,hr.ext e⟩
              free:=λhx=>(by cases hx),froz:=λ_ j hj => .inr rfl }
    · simp only [supd,hm,if_false]at hby
      obtain ⟨b',o',sz',h1,h2,h3⟩:=h.box m by' hby
      have hne:b'≠b:=λhx=>by subst hx;exact hm (h.one n m _ by' b' o sz o' sz' hS hby rfl hmu h1).symm
      exact⟨b',o',sz',h1,h2.ext e (λ_=>rfl) (λ_ o'' hx=>hx.resolve_right (λhy=>hne hy)),h3⟩
  · intro n1 m1 bx1 by1 b1 o1 sz1 o2 sz2 a1 a2 a3 a4 a5
    have get:∀{m by'},supd S n (some (.froz sz xs)) m=some by'->∃by'',S m=some by''/\(by'.mut=true->by''.mut=true):=by
      intro m by' hx
      by_cases hm:m=n
      · subst hm;exact⟨_,hS,λ_=>rfl⟩
      · simp only [supd,hm,if_false]at hx;exact⟨by',hx,id⟩
    obtain ⟨bx2,c1,c2⟩:=get a1
    obtain ⟨by2,c3,_⟩:=get a2
    exact h.one n1 m1 bx2 by2 b1 o1 sz1 o2 sz2 c1 c3 (c2 a3) a4 a5
  · intro b' o' hb
    rcases hb with hb|rfl
    · exact h.immB b' o' hb
    · exact h.bound n b' o sz hmu
theorem Inv.wild {E:Env} {G:Gh} {w:World} {S:Store} {tk:Nat} {U:Nat->Prop} (h:Inv E G w S tk U) {n:Nm} {sz:Nat} {xs:List (List D)} {b o:Nat}
    (hS:S n=some (.vec sz xs)) (hmu:G.mu n=some (b,o,sz)) :
    Inv E ⟨λb' o'=>G.imm b' o'\/(b'=b/\o'=bsize w b),G.mu⟩ w (supd S n none) tk U /\
    Ext G w ⟨λb' o'=>G.imm b' o'\/(b'=b/\o'=bsize w b),G.mu⟩ w:=by
  obtain ⟨b₁,o₁,sz₁,k1,k2,k3⟩:=h.box n _ hS
  rw [hmu]at k1
  simp only [so_,Prod.mk.injEq]at k1
  obtain ⟨rfl,rfl,rfl⟩:=k1
  have k2':Stands G w (.vec sz xs) b o sz:=k2
  have e:Ext G w ⟨λb' o'=>G.imm b' o'\/(b'=b/\o'=bsize w b),G.mu⟩ w :=
    tX (λ_ _ h => .inl h) h.immB (λ_ _ h=>h) (λ_ _ => .inl rfl) (λb' o' m h1 h2=>h2.resolve_right (λh3=>(k2'.free rfl).2 m (h3.1 ▸ h1)))
  have get:∀{m by'},supd S n none m=some by'->m≠n/\S m=some by':=by
    intro m by' hx
    by_cases hm:m=n
    · simp only [supd,hm,if_true]at hx;cases hx
    · simp only [supd,hm,if_false]at hx;exact⟨hm,hx⟩
  refine⟨⟨h.ext.trans e,?_,h.frame,h.size,h.os,h.tape,h.output,?_,?_,h.tick,h.bound,?_,h.kn,h.dr⟩,e⟩
  · intro b' o' hb
    rcases hb with hb|⟨rfl,_⟩
    · exact h.newI b' o' hb
    · exact .inr (k3 rfl)
  · intro m by' hby
    obtain ⟨hm,hby⟩:=get hby
    obtain ⟨b',o',sz',h1,h2,h3⟩:=h.box m by' hby
    have hne:b'≠b:=λhx=>by subst hx;exact hm (h.one n m _ by' b' o sz o' sz' hS hby rfl hmu h1).symm
    exact⟨b',o',sz',h1,h2.ext e (λ_=>rfl) (λ_ o'' hx=>hx.resolve_right (λhy=>hne hy.1)),h3⟩
  · intro n1 m1 bx1 by1 b1 o1 sz1 o2 sz2 a1 a2 a3 a4 a5
    exact h.one n1 m1 bx1 by1 b1 o1 sz1 o2 sz2 (get a1).2 (get a2).2 a3 a4 a5
  · intro b' o' hb
    rcases hb with hb|⟨rfl,_⟩
    · exact h.immB b' o' hb
    · exact h.bound n b' o sz hmu
theorem K4 {E:Env} {G:Gh} {w:World} {S:Store} {tk:Nat} {U:Nat->Prop} (h:Inv E G w S tk U) {n:Nm} {sz k len:Nat} {xs:List (List D)} {v:Value}
    (hS:S n=some (.vec sz xs)) (hv:RepV G w v (.vs n sz k len)) :
    ∃G',Inv E G' w (supd S n none) tk U/\Ext G w G' w/\RepD G'.imm w v (.wild sz len):=by
  obtain ⟨b,o,sz',k1,k2,k3⟩:=h.box n _ hS
  have k2':Stands G w (.vec sz xs) b o sz':=k2
  obtain rfl:sz'=sz:=k2'.sz
  obtain ⟨i,e⟩:=h.wild hS k1
  refine⟨_,i,e,?_⟩
  cases hv with
  | vs0=>exact .wild0 _ _ _
  | vs _ _ cap hm hc hb =>
    rw [k1]at hm
    simp only [so_,Prod.mk.injEq]at hm
    obtain ⟨rfl,rfl,_⟩:=hm
    have hle:o+k*sz'+len*sz'<=bsize w b:=by
      have h1:(k+len)*sz'<=(k+cap)*sz':=Nat.mul_le_mul_right _ (Nat.add_le_add_left hc k)
      rw [Nat.add_mul]at h1
      omega
    obtain ⟨arr,el,ha⟩:=(k2'.free rfl).1
    refine .wild b (o+k*sz') cap sz' len (bsize w b) ⟨arr,el,ha⟩ (.inr ⟨rfl,rfl⟩) (λo' h1 h2 h3 => ?_) hle
    rcases h3 with h3|⟨_,h3⟩
    · exact (k2'.free rfl).2 o' h3
    · omega
end Go.Eng

/-
  THE ENGINE: what a load reads.
-/
namespace Go.Eng
set_option linter.unusedSectionVars false
variable [DM]
variable {P:Program}
theorem qY {t:TypeId} {s:Nat} (h:szT P t=some s):∃i d,P.info? t=some i/\i.size=s/\P.underlying t=some d:=by
 unfold szT at h
 split at h
 ·rename_i i d h1 h2
  simp only [so_]at h
  exact⟨i,d,h1,h,h2⟩
 ·cases h
theorem run_sizeOf {t:TypeId} {s:Nat} (h:szT P t=some s) (w:World):(sizeOf t).run P w = .ok s w:=by
 obtain ⟨i,d,h1,h2,_⟩:=qY h
 simp [sizeOf,typeInfo,h1,h2]
theorem aQ {t:TypeId} {d:TypeDesc} (h:P.underlying t=some d) (w:World):(underlying t).run P w = .ok d w:=by
 simp [underlying,h]
theorem yK {t:TypeId} {s:Nat} (h:szT P t=some s) (w:World):(isAgg t).run P w = .ok (cO P t) w:=by
 obtain ⟨i,d,_,_,h3⟩:=qY h
 unfold isAgg cO
 simp only [Sem.run_bind,aQ h3,Result.andThen_ok,h3]
 cases d <;> rfl
theorem addr_add (b o n:Nat):(⟨b,o,none⟩:Addr).add n=⟨b,o+n,none⟩:=by
 unfold Addr.add;split <;> simp_all
theorem tF {t:TypeId} {s:Nat} (h:szT P t=some s) (ha:cO P t=true) (w:World) (b o:Nat) (us:List Value) (hl:us.length=s)
  (hc:∀j (hj:j<us.length),w.cell? ⟨b,o+j,none⟩=some us[j]):(loadVar t ⟨b,o,none⟩).run P w = .ok (.agg us.toArray) w:=by
 have h1:=run_loadCells_list (P:=P) w ⟨b,o,none⟩ us (λj v hv=>by
  obtain ⟨hj,e⟩:=List.getElem?_eq_some_iff.1 hv
  rw [addr_add,hc j hj,e])
 subst hl
 simp only [loadVar,Sem.run_bind,yK h,Result.andThen_ok,ha,if_true,run_sizeOf h,h1,Sem.run_pure]
theorem tq {t:TypeId} {s:Nat} (h:szT P t=some s) (ha:cO P t=false) (w:World) (b o:Nat) (u:Value)
  (hc:w.cell? ⟨b,o,none⟩=some u):(loadVar t ⟨b,o,none⟩).run P w = .ok u w:=by
 simp only [loadVar,Sem.run_bind,yK h,Result.andThen_ok,ha,Bool.false_eq_true,if_false,run_load,hc]
theorem ll {α:Type} (f:Nat->α) (n j:Nat) (h:j<((List.range n).map f).length):((List.range n).map f)[j]=f j:=by simp
theorem RepD.aggOf {I:Nat->Nat->Prop} {w:World} (us:Nat->Value) (ds:List D) (h:∀j (hj:j<ds.length),RepD I w (us j) ds[j]) :
  RepD I w (.agg ((List.range ds.length).map us).toArray) (.agg ds) :=
 .agg _ ds (by simp) (λi h1 h2=>by rw [ll];exact h i h2)
theorem RepV.aggOf {G:Gh} {w:World} (us:Nat->Value) (vs:List V) (h:∀j (hj:j<vs.length),RepV G w (us j) vs[j]) :
  RepV G w (.agg ((List.range vs.length).map us).toArray) (.agg vs) :=
 .agg _ vs (by simp) (λi h1 h2=>by rw [ll];exact h i h2)
theorem yA:∀{vs:List V} {ds:List D},Ce vs=some ds->vs=ds.map .d
 | [],ds,h=>by simp [Ce]at h;subst h;rfl
 | v::vs,ds,h=>by
  cases v with
  | d x =>
   simp only [Ce,Option.map_eq_some_iff]at h
   obtain ⟨ds',h1,rfl⟩:=h
   rw [yA h1];rfl
  | _=>simp [Ce]at h
theorem RepV.d_inv {G:Gh} {w:World} {v:Value} {x:D} (h:RepV G w v (.d x)):RepD G.imm w v x:=by
 cases h with | d h=>exact h
theorem kV {G:Gh} {w:World} {arr:List Value} {vs:List V} (hl:arr.length=vs.length)
  (h:∀i (h1:i<arr.length) (h2:i<vs.length),RepV G w arr[i] vs[i]):RepV G w (.agg arr.toArray) (mkAgg vs):=by
 unfold mkAgg
 split
 ·rename_i ds hd
  have:=yA hd
  subst this
  exact .d (.agg arr ds (by simpa using hl) (λi h1 h2=>by
   have:=h i h1 (by simpa using h2)
   rw [List.getElem_map]at this
   exact this.d_inv))
 ·exact .agg arr vs hl h
theorem yx {G:Gh} {w:World} {t:TypeId} {size:Nat} (hsz:szT P t=some size) (b o:Nat) (cs:List D) (us:Nat->Value)
  (hc:∀j,j<cs.length->w.cell? ⟨b,o+j,none⟩=some (us j)) (h:∀j (hj:j<cs.length),RepD G.imm w (us j) cs[j]) {v:V}
  (hr:rdD (cO P t) size cs=some v):∃u,(loadVar t ⟨b,o,none⟩).run P w = .ok u w/\RepV G w u v:=by
 unfold rdD at hr
 cases ha:cO P t with
 | true =>
  simp only [ha,cond_true]at hr
  cases hle:Nat.ble size cs.length with
  | false=>simp [hle]at hr
  | true =>
   simp only [hle,cond_true,so_]at hr
   subst hr
   have hle':size<=cs.length:=Nat.le_of_ble_eq_true hle
   refine⟨_,tF hsz ha w b o ((List.range size).map us) (by simp) (λj hj => ?_),.d ?_⟩
   ·simp only [List.length_map,List.length_range]at hj
    rw [ll,hc j (by omega)]
   ·have e:size=(cs.take size).length:=by simp;omega
    conv=>arg 3;rw [e]
    exact RepD.aggOf us _ (λj hj=>by
     simp only [List.length_take]at hj
     rw [List.getElem_take];exact h j (by omega))
 | false =>
  simp only [ha,cond_false]at hr
  cases cs with
  | nil=>simp at hr
  | cons c cs =>
   simp only [so_]at hr
   subst hr
   have h0:=hc 0 (by simp)
   exact⟨us 0,tq hsz ha w b o (us 0) (by simpa using h0),.d (h 0 (by simp))⟩
theorem KR {G:Gh} {w:World} {t:TypeId} {size:Nat} (hsz:szT P t=some size) (b o:Nat) (cs:List V) (us:Nat->Value)
  (hc:∀j,j<cs.length->w.cell? ⟨b,o+j,none⟩=some (us j)) (h:∀j (hj:j<cs.length),RepV G w (us j) cs[j]) {v:V}
  (hr:rdV (cO P t) size cs=some v):∃u,(loadVar t ⟨b,o,none⟩).run P w = .ok u w/\RepV G w u v:=by
 unfold rdV at hr
 cases ha:cO P t with
 | true =>
  simp only [ha,cond_true]at hr
  cases hle:Nat.ble size cs.length with
  | false=>simp [hle]at hr
  | true =>
   simp only [hle,cond_true,so_]at hr
   subst hr
   have hle':size<=cs.length:=Nat.le_of_ble_eq_true hle
   refine⟨_,tF hsz ha w b o ((List.range size).map us) (by simp) (λj hj => ?_),kV (by simp;omega) (λi h1 h2 => ?_)⟩
   ·simp only [List.length_map,List.length_range]at hj
    rw [ll,hc j (by omega)]
   ·rw [ll,List.getElem_take]
    simp at h1
    exact h i (by omega)
 | false =>
  simp only [ha,cond_false]at hr
  cases cs with
  | nil=>simp at hr
  | cons c cs =>
   simp only [so_]at hr
   subst hr
   have h0:=hc 0 (by simp)
   exact⟨us 0,tq hsz ha w b o (us 0) (by simpa using h0),h 0 (by simp)⟩
theorem flat_get {α:Type} (sz:Nat):∀(xs:List (List α)),(∀x∈xs,x.length=sz)->∀(i j:Nat) (hi:i<xs.length) (hj:j<xs[i].length),
  ∃h:i*sz+j<xs.flatten.length,xs.flatten[i*sz+j]=xs[i][j]
 | [],_,i,_,hi,_=>absurd hi (Nat.not_lt_zero i)
 | x::xs,he,0,j,hi,hj=>by
  have hj':j<x.length:=hj
  refine⟨by simp;omega,?_⟩
  simp only [List.flatten_cons,Nat.zero_mul,Nat.zero_add]
  rw [List.getElem_append_left hj'];rfl
 | x::xs,he,i+1,j,hi,hj=>by
  have hx:x.length=sz:=he x (by simp)
  have hi':i<xs.length:=by simpa using hi
  have hj':j<xs[i].length:=by simpa using hj
  obtain ⟨h1,h2⟩:=flat_get sz xs (λy hy=>he y (by simp [hy])) i j hi' hj'
  have e:(i+1)*sz+j=x.length+(i*sz+j):=by rw [Nat.succ_mul];omega
  refine⟨by simp only [List.flatten_cons,List.length_append];omega,?_⟩
  simp only [List.flatten_cons,e]
  rw [List.getElem_append_right (by omega)]
  simp only [Nat.add_sub_cancel_left]
  rw [h2];rfl
theorem nO {α:Type} (sz:Nat):∀(xs:List (List α)),(∀x∈xs,x.length=sz)->xs.flatten.length=xs.length*sz
 | [],_=>by simp
 | x::xs,he=>by
  rw [List.flatten_cons,List.length_append,he x (by simp),nO sz xs (λy hy=>he y (by simp [hy])),List.length_cons,Nat.succ_mul,Nat.add_comm]
theorem Stands.elem {G:Gh} {w:World} {bx:Box} {xs:List (List D)} {b o sz:Nat} (h:Stands G w bx b o sz)
  (hb:bx = .vec sz xs\/bx = .froz sz xs) (i:Nat) (hi:i<xs.length) :
  xs[i].length=sz/\∃us:Nat->Value,(∀j,j<xs[i].length->w.cell? ⟨b,o+i*sz+j,none⟩=some (us j)/\(us j).oneCell'=true)/\∀j (hj:j<xs[i].length),RepD G.imm w (us j) xs[i][j]:=by
 have hall:bx.all=(xs.map λx=>x.map V.d).flatten:=by rcases hb with rfl | rfl <;> rfl
 have heven:∀x∈xs,x.length=sz:=by rcases hb with rfl | rfl <;> exact h.even
 refine⟨heven _ (List.getElem_mem hi),?_⟩
 have hev:∀x∈xs.map (λx=>x.map V.d),x.length=sz:=by
  intro x hx
  obtain ⟨y,hy,rfl⟩:=List.mem_map.1 hx
  rw [List.length_map];exact heven y hy
 have hget:∀j (hj:j<xs[i].length),∃u,(w.cell? ⟨b,o+i*sz+j,none⟩=some u/\u.oneCell'=true)/\RepD G.imm w u xs[i][j]:=by
  intro j hj
  obtain ⟨h1,h2⟩:=flat_get sz _ hev i j (by simpa using hi) (by simpa using hj)
  have h1':i*sz+j<bx.all.length:=by rw [hall];exact h1
  obtain ⟨u,hu,ho,hr⟩:=h.cell (i*sz+j) h1'
  have e:bx.all[i*sz+j]=V.d xs[i][j]:=by
   have:bx.all[i*sz+j]? = some (V.d xs[i][j]):=by
    rw [hall,List.getElem?_eq_getElem h1,h2];simp
   rw [List.getElem?_eq_getElem h1']at this
   exact Option.some.inj this
  rw [e]at hr
  exact⟨u,⟨by rw [show o+i*sz+j=o+(i*sz+j) by omega];exact hu,ho⟩,hr.d_inv⟩
 refine⟨λj=>if hj:j<xs[i].length then (hget j hj).choose else undef,λj hj => ?_,λj hj => ?_⟩
 ·simp only [hj,dif_pos];exact (hget j hj).choose_spec.1
 ·simp only [hj,dif_pos];exact (hget j hj).choose_spec.2
theorem Stands.run {G:Gh} {w:World} {cs:List V} {b o sz s:Nat} (h:Stands G w (.cells s cs) b o sz) :
  ∃us:Nat->Value,(∀j,j<cs.length->w.cell? ⟨b,o+j,none⟩=some (us j))/\∀j (hj:j<cs.length),RepV G w (us j) cs[j]:=by
 have hget:∀j (hj:j<cs.length),∃u,w.cell? ⟨b,o+j,none⟩=some u/\RepV G w u cs[j]:=λj hj=>let ⟨u,a,_,c⟩:=h.cell j hj;⟨u,a,c⟩
 refine⟨λj=>if hj:j<cs.length then (hget j hj).choose else undef,λj hj => ?_,λj hj => ?_⟩
 ·simp only [hj,dif_pos];exact (hget j hj).choose_spec.1
 ·simp only [hj,dif_pos];exact (hget j hj).choose_spec.2
end Go.Eng

/-
  THE ENGINE: each operation does on memory what its computed effect says: loads, stores, addresses, arithmetic.
-/
namespace Go.Eng
set_option linter.unusedSectionVars false
variable [DM]
variable {P:Program}
theorem Inv.mono {E:Env} {G:Gh} {w:World} {S:Store} {tk:Nat} {U U':Nat->Prop} (h:Inv E G w S tk U) (hU:∀n,U n->U' n):Inv E G w S tk U' :=
  { h with tick:=λn x hx=>(h.tick n x hx).imp id (fun⟨a,c⟩=>⟨a,hU _ c⟩) }
def dC (P:Program) (E:Env) (s:Sem Next) (dst:Option Nat) (G:Gh) (w:World) (S:Store) (tk:Nat) (U:Nat->Prop) (A:Eff):Prop :=
  ∃nx u w' G',s.run P w = .ok nx w'/\(nx = .value u\/(nx = .skip/\u=undef))/\Ext G w G' w' /\
    Inv E G' w' (dn S A.upd) tk (λn=>U n\/dst=some (n % 100000))/\RepV G' w' u A.val
section
variable {E:Env} {G:Gh} {w:World} {S:Store} {tk:Nat} {U:Nat->Prop} {dst:Option Nat}
theorem dC.still (h:Inv E G w S tk U) {s:Sem Value} {u:Value} {v:V} {req:List (Nm×Box)} (hr:s.run P w = .ok u w) (hv:RepV G w u v) :
    dC P E (do pure (.value (<- s))) dst G w S tk U ⟨req,[],v⟩ :=
  ⟨.value u,u,w,G,by simp [hr],.inl rfl,Ext.refl G w,h.mono (λ_ x => .inl x),hv⟩
theorem dN {v:V} {A:Eff} (h:eF v=some A):A=⟨[],[],v⟩:=by
  simp [eF]at h;exact h.symm
theorem Inv.stands (h:Inv E G w S tk U) {n:Nm} {bx:Box} (hS:S n=some bx) {b o sz:Nat} (hmu:G.mu n=some (b,o,sz)):StandsBox G w bx b o sz/\(bx.mut=true->E.w.heap.size<=b\/E.M b):=by
  obtain ⟨b',o',sz',h1,h2,h3⟩:=h.box n bx hS
  rw [hmu]at h1
  simp only [so_,Prod.mk.injEq]at h1
  obtain ⟨rfl,rfl,rfl⟩:=h1
  exact⟨h2,h3⟩
theorem RepV.ref_inv {u:Value} {n:Nm} {i j:Nat} (h:RepV G w u (.ref n i j)):∃b o sz,G.mu n=some (b,o,sz)/\u = .pointer (some ⟨b,o+i*sz+j,Option.none⟩):=by
  cases h with | ref _ _ h=>exact⟨_,_,_,h,rfl⟩
theorem DN (h:Inv E G w S tk U) {t:TypeId} {u:Value} {a:V} {A:Eff} (ha:RepV G w u a) (hf:pW P t S a=some A) :
    ∃ad x,u = .pointer (some ad)/\(loadVar t ad).run P w = .ok x w/\RepV G w x A.val/\A.upd=[]:=by
  unfold pW at hf
  split at hf
  · cases hf
  rename_i size hsz
  split at hf
  · rename_i cs
    simp only [Option.bind_eq_some_iff]at hf
    obtain ⟨v,hv,hp⟩:=hf
    rw [dN hp]
    cases ha.d_inv with
    | ptr _ _ _ us hI hc hr =>
      obtain ⟨x,hx,hrx⟩:=yx (G:=G) hsz _ _ cs us hc hr hv
      exact⟨_,x,rfl,hx,hrx,rfl⟩
  · rename_i n i j
    obtain ⟨b,o,sz0,hmu,rfl⟩:=ha.ref_inv
    split at hf
    · rename_i sz xs hS
      split at hf
      · rename_i cs hcs
        simp only [Option.map_eq_some_iff]at hf
        obtain ⟨v,hv,rfl⟩:=hf
        have hst:Stands G w (.vec sz xs) b o sz0:=(h.stands hS hmu).1
        have hz:sz0=sz:=hst.sz
        subst hz
        obtain ⟨hi,rfl⟩:=List.getElem?_eq_some_iff.1 hcs
        obtain ⟨hl,us,h1,h2⟩:=hst.elem (.inl rfl) i hi
        obtain ⟨x,hx,hrx⟩:=yx (G:=G) hsz b (o+i*sz0+j) (xs[i].drop j) (λk=>us (j+k))
          (λk hk=>by simp only [List.length_drop]at hk;rw [Nat.add_assoc (o+i*sz0)];exact (h1 (j+k) (by omega)).1)
          (λk hk=>by rw [List.getElem_drop];exact h2 (j+k) (by simp only [List.length_drop]at hk;omega)) hv
        exact⟨_,x,rfl,hx,hrx,rfl⟩
      · cases hf
    · rename_i sz xs hS
      split at hf
      · rename_i cs hcs
        simp only [Option.map_eq_some_iff]at hf
        obtain ⟨v,hv,rfl⟩:=hf
        have hst:Stands G w (.froz sz xs) b o sz0:=(h.stands hS hmu).1
        have hz:sz0=sz:=hst.sz
        subst hz
        obtain ⟨hi,rfl⟩:=List.getElem?_eq_some_iff.1 hcs
        obtain ⟨hl,us,h1,h2⟩:=hst.elem (.inr rfl) i hi
        obtain ⟨x,hx,hrx⟩:=yx (G:=G) hsz b (o+i*sz0+j) (xs[i].drop j) (λk=>us (j+k))
          (λk hk=>by simp only [List.length_drop]at hk;rw [Nat.add_assoc (o+i*sz0)];exact (h1 (j+k) (by omega)).1)
          (λk hk=>by rw [List.getElem_drop];exact h2 (j+k) (by simp only [List.length_drop]at hk;omega)) hv
        exact⟨_,x,rfl,hx,hrx,rfl⟩
      · cases hf
    · rename_i sz cs hS
      simp only [Option.map_eq_some_iff]at hf
      obtain ⟨v,hv,rfl⟩:=hf
      have hst:Stands G w (.cells sz cs) b o sz0:=(h.stands hS hmu).1
      have hz:sz0=sz:=hst.sz
      subst hz
      obtain ⟨us,h1,h2⟩:=hst.run
      obtain ⟨x,hx,hrx⟩:=KR (G:=G) hsz b (o+i*sz0+j) (cs.drop (i*sz0+j)) (λk=>us (i*sz0+j+k))
        (λk hk=>by simp only [List.length_drop]at hk;rw [show o+i*sz0+j+k=o+(i*sz0+j+k) by omega];exact h1 (i*sz0+j+k) (by omega))
        (λk hk=>by rw [List.getElem_drop];exact h2 (i*sz0+j+k) (by simp only [List.length_drop]at hk;omega)) hv
      exact⟨_,x,rfl,hx,hrx,rfl⟩
    · cases hf
  · cases hf
theorem L6 (h:Inv E G w S tk U) {t:TypeId} {u:Value} {a:V} {A:Eff} (ha:RepV G w u a) (hf:pW P t S a=some A) :
    dC P E (do pure (.value (<- Instr.loadAt t u))) dst G w S tk U A:=by
  obtain ⟨ad,x,rfl,h1,h2,h3⟩:=DN h ha hf
  have:=dC.still (dst:=dst) (req:=A.req) h (s:=Instr.loadAt t (.pointer (some ad))) (by simpa [Instr.loadAt,Instr.sureAddr]using h1) h2
  rw [<- h3]at this
  exact this
theorem RepD.cells_one {I:Nat->Nat->Prop} {u:Value} {x:D} (h:RepD I w u x) (hx:∀cs,x ≠ .agg cs):u.oneCell'=true:=by
  cases h with
  | agg arr ds hl h=>exact absurd rfl (hx ds)
  | _=>rfl
theorem RepV.oneCell {u:Value} {x:V} (h:RepV G w u x) (ho:iq x=true):u.oneCell'=true:=by
  cases h with
  | d h=>exact h.cells_one (λcs e=>by subst e;simp [iq]at ho)
  | agg | tup | none | any=>simp [iq]at ho
  | _=>rfl
theorem Cm {u:Value} (h:u.oneCell'=true):u.cells = #[u]:=by
  cases u <;> first | rfl | simp [Value.oneCell']at h
theorem RepV.cells {u:Value} {x:V} (h:RepV G w u x) (ho:(aW x).all iq=true) :
    u.cells.toList.length=(aW x).length/\∀i (h1:i<u.cells.toList.length) (h2:i<(aW x).length),RepV G w u.cells.toList[i] (aW x)[i]:=by
  have base:∀{u:Value} {x:V},RepV G w u x->aW x=[x]->iq x=true ->
      u.cells.toList.length=(aW x).length/\∀i (h1:i<u.cells.toList.length) (h2:i<(aW x).length),RepV G w u.cells.toList[i] (aW x)[i]:=by
    intro u x h e h1
    have hu:=Cm (h.oneCell h1)
    refine⟨by rw [e,hu];rfl,λi a c => ?_⟩
    have hi:i=0:=by rw [e]at c;simp at c;exact c
    subst hi
    simp only [e,hu]
    exact h
  cases x with
  | d x =>
    cases x with
    | agg ds =>
      cases h.d_inv with
      | agg arr _ hl hh =>
        refine⟨by simpa [Value.cells,aW]using hl,λi a c => ?_⟩
        simp only [Value.cells,aW,List.getElem_map]
        exact .d (hh i (by simpa [Value.cells]using a) (by simpa [aW]using c))
    | int k n=>exact base h rfl rfl
    | bool b=>exact base h rfl rfl
    | str s=>exact base h rfl rfl
    | sl xs=>exact base h rfl rfl
    | ptr cs=>exact base h rfl rfl
    | nilp=>exact base h rfl rfl
    | wild sz len=>exact base h rfl rfl
    | wildp k=>exact base h rfl rfl
    | nils=>exact base h rfl rfl
  | agg vs =>
    cases h with
    | agg arr _ hl hh=>exact⟨by simpa [Value.cells,aW]using hl,λi a c=>hh i (by simpa [Value.cells]using a) (by simpa [aW]using c)⟩
  | tup vs=>simp [aW,iq]at ho
  | none=>simp [aW,iq]at ho
  | any=>simp [aW,iq]at ho
  | nil=>exact base h rfl rfl
  | nilm=>exact base h rfl rfl
  | nili=>exact base h rfl rfl
  | ref n i j=>exact base h rfl rfl
  | vs n sz k len=>exact base h rfl rfl
  | fn f caps=>exact base h rfl rfl
  | map n=>exact base h rfl rfl
theorem RepV.cells_ones {u:Value} {x:V} (h:RepV G w u x) (ho:(aW x).all iq=true):∀c∈u.cells.toList,c.oneCell'=true:=by
  intro c hc
  obtain ⟨i,hi,rfl⟩:=List.getElem_of_mem hc
  obtain ⟨h1,h2⟩:=h.cells ho
  exact (h2 i hi (h1 ▸ hi)).oneCell (List.all_eq_true.1 ho _ (List.getElem_mem _))
theorem qB (w:World) (g:Nat) (cs cur:Array Value) (t:TypeId) (fr:Nat×Nat) (h:w.heap[g]? = some (.cells cur t fr)) :
    (w.setRow g cs).heap[g]? = some (.cells cs t fr):=by
  simp only [World.setRow,Array.getElem?_modify,if_true,h,Option.map_some]
theorem setRow_other (w:World) (g b:Nat) (cs:Array Value) (h:b≠g):(w.setRow g cs).heap[b]? = w.heap[b]? := by
  simp only [World.setRow,Array.getElem?_modify]
  rw [if_neg (λe=>h e.symm)]
theorem setRow_size (w:World) (g:Nat) (cs:Array Value):(w.setRow g cs).heap.size=w.heap.size:=by
  simp [World.setRow]
theorem cell_of_row {w:World} {b:Nat} {arr:Array Value} {t:TypeId} {fr:Nat×Nat} (h:w.heap[b]? = some (.cells arr t fr)) (o:Nat) :
    w.cell? ⟨b,o,none⟩=arr[o]? := by
  simp [World.cell?,h]
theorem aZ {w:World} {b:Nat} {arr:Array Value} {t:TypeId} {fr:Nat×Nat} (h:w.heap[b]? = some (.cells arr t fr)):bsize w b=arr.size:=by
  simp [bsize,h]
theorem bH {α:Type} (cs new:List α) (o:Nat) (h:o+new.length<=cs.length):(splice cs new o).length=cs.length:=by
  simp [splice];omega
theorem l5 {α:Type} (cs new:List α) (o:Nat) (h:o+new.length<=cs.length) (i:Nat) :
    (splice cs new o)[i]? = if o<=i/\i<o+new.length then new[i-o]? else cs[i]? := by
  have ht:(cs.take o).length=o:=by simp;omega
  unfold splice
  by_cases h1:i<o
  · rw [if_neg (by omega),List.getElem?_append_left (by simp;omega),List.getElem?_append_left (by omega),List.getElem?_take_of_lt h1]
  · by_cases h2:i<o+new.length
    · rw [if_pos ⟨by omega,h2⟩,List.getElem?_append_left (by simp;omega),List.getElem?_append_right (by omega),ht]
    · rw [if_neg (by omega),List.getElem?_append_right (by simp;omega),List.getElem?_drop]
      congr 1
      simp only [List.length_append,ht];omega
theorem kI {α:Type} (cs new:List α) (o:Nat) (h:o+new.length<=cs.length) (i:Nat) (hi:i<(splice cs new o).length) :
    (splice cs new o)[i]=if h1:o<=i/\i<o+new.length then new[i-o]'(by omega)else cs[i]'(by rw [bH cs new o h]at hi;exact hi):=by
  have h0:=l5 cs new o h i
  rw [List.getElem?_eq_getElem hi]at h0
  split
  · rename_i h1
    rw [if_pos h1,List.getElem?_eq_getElem (by omega)]at h0
    exact Option.some.inj h0
  · rename_i h1
    rw [if_neg h1,List.getElem?_eq_getElem (by rw [bH cs new o h]at hi;exact hi)]at h0
    exact Option.some.inj h0
theorem y5 {w w':World} {bx bx':Box} {b o off:Nat} (h:celB w bx b o) (hk:celK bx bx' off):celB w' bx' b o:=by
  cases bx' with
  | cells s cs =>
    obtain ⟨⟨cs0,rfl⟩,hs⟩:=hk
    exact⟨h.1,λh2=>absurd hs (Nat.not_lt_of_le h2)⟩
  | _=>exact trivial
theorem Dj (h:Inv E G w S tk U) {n:Nm} {bx bx':Box} {b o sz:Nat} (hS:S n=some bx) (hmut:bx.mut=true) (hmap:bx.row=true) (hmu:G.mu n=some (b,o,sz))
    {t:TypeId} {size:Nat} (hsz:szT P t=some size) {u:Value} (x:List V) (off:Nat)
    (hul:u.cells.toList.length=x.length) (hur:∀i (h1:i<u.cells.toList.length) (h2:i<x.length),RepV G w u.cells.toList[i] x[i])
    (huo:∀c∈u.cells.toList,c.oneCell'=true)
    (hxs:x.length=size) (hfit:off+size<=bx.all.length) (hall':bx'.all=splice bx.all x off) (hsz':bx'.sz=bx.sz) (hev:bx'.even) (hmut':bx'.mut=true) (hmap':bx'.row=true) (hkin:celK bx bx' off:=by exact trivial) :
    ∃w',(Instr.storeAt t (.pointer (some ⟨b,o+off,none⟩)) u).run P w = .ok () w'/\Inv E G w' (supd S n (some bx')) tk U/\Ext G w G w':=by
  have hst0:=(h.stands hS hmu).1
  have hst:Stands G w bx b o sz:=by
    cases bx with
    | map es=>cases hmap
    | pmap es=>cases hmap
    | iter c l=>cases hmap
    | _=>exact hst0
  obtain ⟨⟨arr,elem,harr⟩,hfree⟩:=hst.free hmut
  have hbs:=aZ harr
  have hroom:=hst.room
  rw [hbs]at hroom
  have hcl:u.cells.size=size:=by rw [<- hxs,<- hul];simp
  have hrun:=run_storeCells_at P b (o+off) elem u.cells.toList 0 arr w harr (by simp;omega) huo
  refine⟨w.setRow b (arr.toList.take (o+off)++u.cells.toList++arr.toList.drop (o+off+u.cells.toList.length)).toArray,?_,?_⟩
  · have hrun':(storeCells ⟨b,o+off,none⟩ u.cells.toList).run P w = .ok () (w.setRow b (arr.toList.take (o+off)++u.cells.toList++arr.toList.drop (o+off+u.cells.toList.length)).toArray):=hrun
    simp only [Instr.storeAt,Instr.sureAddr,Sem.run_bind,Sem.run_pure,Result.andThen_ok,storeVar,run_sizeOf hsz,hcl,ne_eq,not_true_eq_false,if_false,hrun']
  · have hw' : (w.setRow b (arr.toList.take (o + off) ++ u.cells.toList ++ arr.toList.drop (o + off + u.cells.toList.length)).toArray).heap[b]? =
        some (.cells (splice arr.toList u.cells.toList (o+off)).toArray elem (0,0)):=qB w b _ arr elem (0,0) harr
    have hfit2:o+off+u.cells.toList.length<=arr.toList.length:=by rw [hul,hxs];simp;omega
    refine h.write hS hmut hmu (λb' hb'=>setRow_other w b b' _ hb') (setRow_size w b _) ?_ (λe he=>by rw [fJ harr]at he;rw [fJ hw'];exact he) hfree rfl rfl rfl bx' (λe => ?_)
    · rw [hbs,aZ hw'];simp [bH _ _ _ hfit2]
    · have hs:Stands G (w.setRow b (arr.toList.take (o+off)++u.cells.toList++arr.toList.drop (o+off+u.cells.toList.length)).toArray) bx' b o sz :=
        { sz:=by rw [hsz'];exact hst.sz
          even:=hev
          room:=by rw [hall',bH _ _ _ (by omega),aZ hw',List.size_toArray,bH _ _ _ hfit2];simpa using hroom
          cell:=λj hj=>by
            have hj0:j<bx.all.length:=by rw [hall',bH _ _ _ (by omega)]at hj;exact hj
            have hlen:o+j<(splice arr.toList u.cells.toList (o+off)).length:=by rw [bH _ _ _ hfit2];simp;omega
            refine⟨(splice arr.toList u.cells.toList (o+off))[o+j],?_,?_,?_⟩
            · rw [cell_of_row hw'];simp [hlen]
            · rw [kI _ _ _ hfit2]
              split
              · exact huo _ (List.getElem_mem _)
              · rename_i hin
                obtain ⟨v,hv,h1,hr⟩:=hst.cell j hj0
                rw [cell_of_row harr]at hv
                have hin2:o+j<arr.size:=by omega
                rw [Array.getElem?_eq_getElem hin2,so_]at hv
                have:arr.toList[o+j]=v:=by rw [<- hv];simp
                rw [this];exact h1
            · rw [kI _ _ _ hfit2]
              simp only [hall']
              rw [kI _ _ _ (by omega)]
              by_cases hin:off<=j/\j<off+x.length
              · rw [dif_pos hin,dif_pos (by omega)]
                have:=(hur (j-off) (by omega) (by omega)).ext e
                simpa [show o+j-(o+off)=j-off by omega]using this
              · rw [dif_neg hin,dif_neg (by omega)]
                obtain ⟨v,hv,_,hr⟩:=hst.cell j hj0
                rw [cell_of_row harr]at hv
                have hin2:o+j<arr.size:=by omega
                rw [Array.getElem?_eq_getElem hin2,so_]at hv
                have:arr.toList[o+j]=v:=by rw [<- hv];simp
                rw [this]
                exact hr.ext e
          free:=λ_=>⟨⟨_,_,hw'⟩,hfree⟩
          froz:=λhx=>(by rw [hmut']at hx;cases hx)
          cel:=y5 hst.cel hkin }
      cases bx' with
      | map es=>cases hmap'
      | pmap es=>cases hmap'
      | iter c l=>cases hmap'
      | _=>exact hs
theorem uY:∀{vs:List V} {ds:List D},oF vs=some ds->ds.length=vs.length
  | [],ds,h=>by simp [oF]at h;subst h;rfl
  | v::vs,ds,h=>by
    cases v with
    | d x =>
      simp only [oF,Option.map_eq_some_iff]at h
      obtain ⟨ds',h1,rfl⟩:=h
      simp [uY h1]
    | nil =>
      simp only [oF,Option.map_eq_some_iff]at h
      obtain ⟨ds',h1,rfl⟩:=h
      simp [uY h1]
    | _=>simp [oF]at h
theorem vz:∀{vs:List V} {ds:List D} (_:oF vs=some ds) (i:Nat) (h1:i<vs.length) (h2:i<ds.length) (u:Value),RepV G w u vs[i]->RepD G.imm w u ds[i]
  | [],_,_,i,h1,_,_,_=>absurd h1 (Nat.not_lt_zero i)
  | v::vs,ds,h,i,h1,h2,u,hr=>by
    cases v with
    | d x =>
      simp only [oF,Option.map_eq_some_iff]at h
      obtain ⟨ds',h3,rfl⟩:=h
      cases i with
      | zero=>exact hr.d_inv
      | succ i=>exact vz h3 i (by simpa using h1) (by simpa using h2) u hr
    | nil =>
      simp only [oF,Option.map_eq_some_iff]at h
      obtain ⟨ds',h3,rfl⟩:=h
      cases i with
      | zero =>
        have hr':RepV G w u .nil:=hr
        cases hr' with
        | nil a=>exact .sl0 _ _
      | succ i=>exact vz h3 i (by simpa using h1) (by simpa using h2) u hr
    | _=>simp [oF]at h
theorem Io {α β:Type} (f:α->β) (cs new:List α) (o:Nat):(splice cs new o).map f=splice (cs.map f) (new.map f) o:=by
  simp [splice,List.map_drop,List.map_take]
theorem zq {α:Type} (sz:Nat):∀(xs:List (List α)),(∀x∈xs,x.length=sz)->∀(i j:Nat) (new:List α) (hi:i<xs.length),j+new.length<=xs[i].length ->
    (xs.set i (splice xs[i] new j)).flatten=splice xs.flatten new (i*sz+j)
  | [],_,i,_,_,hi,_=>absurd hi (Nat.not_lt_zero i)
  | x::xs,he,0,j,new,hi,hj=>by
    have hj':j+new.length<=x.length:=hj
    simp only [List.set_cons_zero,List.flatten_cons,Nat.zero_mul,Nat.zero_add,splice,List.getElem_cons_zero]
    rw [List.take_append_of_le_length (by omega),List.drop_append_of_le_length (by omega)]
    simp
  | x::xs,he,i+1,j,new,hi,hj=>by
    have hx:x.length=sz:=he x (by simp)
    have hi':i<xs.length:=by simpa using hi
    have hj':j+new.length<=xs[i].length:=by simpa using hj
    have ih:=zq sz xs (λy hy=>he y (by simp [hy])) i j new hi' hj'
    simp only [List.set_cons_succ,List.flatten_cons,List.getElem_cons_succ]
    rw [ih]
    have e:(i+1)*sz+j=x.length+(i*sz+j):=by rw [Nat.succ_mul];omega
    unfold splice
    rw [e,List.take_append,List.drop_append]
    have e1:List.take (x.length+(i*sz+j)) x=x:=List.take_of_length_le (by omega)
    have e2:List.drop (x.length+(i*sz+j)+new.length) x=[]:=List.drop_eq_nil_of_le (by omega)
    rw [e1,e2]
    simp only [Nat.add_sub_cancel_left,List.append_assoc,List.nil_append]
    congr 4
    omega
theorem MG {α:Type} {sz:Nat} {xs:List (List α)} (he:∀x∈xs,x.length=sz) (i:Nat) (y:List α) (hy:y.length=sz):∀x∈xs.set i y,x.length=sz:=by
  intro x hx
  rcases List.mem_or_eq_of_mem_set hx with h|h
  · exact he x h
  · rw [h,hy]
theorem HY (h:Inv E G w S tk U) {b m off:Nat} {arr:Array Value} {elem:TypeId} (harr:w.heap[b]? = some (.cells arr elem (0,0))) (hm:G.imm b m) (vs:List Value) (hne:0<vs.length) (hfit:off+vs.length<=arr.toList.length)
    (hf:∀o,off<=o->o<off+vs.length->¬G.imm b o) :
    Inv E G (w.setRow b (splice arr.toList vs off).toArray) S tk U/\Ext G w G (w.setRow b (splice arr.toList vs off).toArray):=by
  have hw':(w.setRow b (splice arr.toList vs off).toArray).heap[b]? = some (.cells (splice arr.toList vs off).toArray elem (0,0)):=qB w b _ arr elem (0,0) harr
  have hoth:∀b',b'≠b->(w.setRow b (splice arr.toList vs off).toArray).heap[b']? = w.heap[b']? := λb' hb'=>setRow_other w b b' _ hb'
  have hbs:bsize (w.setRow b (splice arr.toList vs off).toArray) b=bsize w b:=by
    rw [aZ hw',aZ harr];simp [bH _ _ _ hfit]
  have e:Ext G w G (w.setRow b (splice arr.toList vs off).toArray) :=
    { imm:=λ_ _ h=>h
      cell:=λb' o hb=>by
        by_cases hx:b'=b
        · subst hx
          rw [cell_of_row hw',cell_of_row harr,List.getElem?_toArray,l5 _ _ _ hfit,if_neg (λhin=>hf o hin.1 hin.2 hb),Array.getElem?_toList]
        · exact rH (hoth b' hx) o
      mu:=λ_ _ h=>h
      size:=λb'=>by
        by_cases hx:b'=b
        · subst hx;rw [hbs];exact Nat.le_refl _
        · rw [rV (hoth b' hx)];exact Nat.le_refl _
      elem:=λb' e he=>by
        by_cases hx:b'=b
        · subst hx;rw [fJ harr]at he;rw [fJ hw'];exact he
        · rw [uf (hoth b' hx)];exact he
      map:=λb' arr' clk _ e=>by
        by_cases hx:b'=b
        · subst hx;rw [harr]at e;cases e
        · rw [hoth b' hx];exact e
      still:=λ_ _ _ _ h=>h
      thaw:=λb' m _ ht=>by
        by_cases hx:b'=b
        · subst hx;exact⟨_,_,hw'⟩
        · exact Ai (hoth b' hx) ht }
  refine⟨{ h with ext:=h.ext.trans e,frame:=λb' hb hM hW => ?_,size:=by rw [setRow_size];exact h.size,os:=h.os,tape:=h.tape,output:=h.output,box:=λn bx hS => ?_,bound:=λn b' o sz hx=>by rw [setRow_size];exact h.bound n b' o sz hx,immB:=λb' o hb=>by rw [setRow_size];exact h.immB b' o hb,dr:=h.dr },e⟩
  · by_cases hx:b'=b
    · subst hx
      exfalso
      have hold:=h.frame b' hb hM hW
      rcases h.newI b' m hm with k|k|k
      · refine hW ⟨⟨m,k⟩,off,?_,λk2=>hf off (Nat.le_refl _) (by omega) (h.ext.imm _ _ k2)⟩
        rw [<- rV hold,aZ harr]
        have:arr.toList.length=arr.size:=by simp
        omega
      · omega
      · exact hM k
    · rw [hoth b' hx];exact h.frame b' hb hM hW
  · obtain ⟨b',o',sz',h1,h2,h3⟩:=h.box n bx hS
    refine⟨b',o',sz',h1,h2.ext e (λhmut=>hoth b' (λhx => ?_)) (λ_ _ h=>h),h3⟩
    subst hx
    exact h2.noimm hmut m hm
theorem Kz (h:Inv E G w S tk U) {t:TypeId} {u v:Value} {a x:V} {A:Eff} (ha:RepV G w u a) (hx:RepV G w v x) (hf:rT P t S a x=some A) :
    dC P E (do Instr.storeAt t u v;pure .skip) dst G w S tk U A:=by
  have fin:∀{bx':Box} {n:Nm} {req:List (Nm×Box)},(∃w',(Instr.storeAt t u v).run P w = .ok () w'/\Inv E G w' (supd S n (some bx')) tk U/\Ext G w G w') ->
      dC P E (do Instr.storeAt t u v;pure .skip) dst G w S tk U ⟨req,[(n,some bx')],.none⟩:=by
    rintro bx' n req ⟨w',h1,h2,h3⟩
    exact⟨.skip,undef,w',G,by simp [h1],.inr ⟨rfl,rfl⟩,h3,h2.mono (λ_ x => .inl x),.none⟩
  unfold rT at hf
  split at hf
  · cases hf
  rename_i size hsz
  split at hf
  · rename_i n i j
    obtain ⟨b,o,sz0,hmu,rfl⟩:=ha.ref_inv
    split at hf
    · rename_i sz cs hS
      have hst:Stands G w (.cells sz cs) b o sz0:=(h.stands hS hmu).1
      have hz:sz0=sz:=hst.sz
      subst hz
      cases hc:(Nat.beq (aW x).length size&&Nat.ble (i*sz0+j+size) cs.length&&(aW x).all iq&&Nat.blt sz0 1048576)with
      | false=>simp only [hc,cond_false]at hf;cases hf
      | true =>
        simp only [hc,cond_true,so_]at hf
        subst hf
        simp only [Bool.and_eq_true]at hc
        obtain ⟨⟨⟨h1,h2⟩,h3⟩,h4⟩:=hc
        have h1':=Nat.eq_of_beq_eq_true h1
        have h2':=Nat.le_of_ble_eq_true h2
        obtain ⟨c1,c2⟩:=hx.cells h3
        refine fin ?_
        rw [show o+i*sz0+j=o+(i*sz0+j) by omega]
        have hkin:celK (.cells sz0 cs) (.cells sz0 (splice cs (aW x) (i*sz0+j))) (i*sz0+j):=⟨⟨cs,rfl⟩,by simpa [Nat.blt_eq]using h4⟩
        exact Dj h hS rfl rfl hmu hsz (aW x) (i*sz0+j) c1 c2 (hx.cells_ones h3) h1' h2' rfl rfl trivial rfl rfl hkin
    · rename_i sz xs hS
      have hst:Stands G w (.vec sz xs) b o sz0:=(h.stands hS hmu).1
      have hz:sz0=sz:=hst.sz
      subst hz
      split at hf
      · rename_i cs new hcs hnew
        cases hc:(Nat.beq new.length size&&Nat.ble (j+size) cs.length&&(aW x).all iq)with
        | false=>simp only [hc,cond_false]at hf;cases hf
        | true =>
          simp only [hc,cond_true,so_]at hf
          subst hf
          simp only [Bool.and_eq_true]at hc
          obtain ⟨⟨h1,h2⟩,h3⟩:=hc
          have h1':=Nat.eq_of_beq_eq_true h1
          have h2':=Nat.le_of_ble_eq_true h2
          obtain ⟨hi,rfl⟩:=List.getElem?_eq_some_iff.1 hcs
          obtain ⟨c1,c2⟩:=hx.cells h3
          have hlen:=uY hnew
          have heven:∀y∈xs,y.length=sz0:=hst.even
          have hil:xs[i].length=sz0:=heven _ (List.getElem_mem hi)
          have hsl:(splice xs[i] new j).length=sz0:=by rw [bH _ _ _ (by omega),hil]
          have hall:(Box.vec sz0 xs).all.length=xs.length*sz0:=by
            show ((xs.map λx=>x.map V.d).flatten).length=_
            rw [nO sz0 _ (λy hy=>by obtain ⟨z,hz,rfl⟩:=List.mem_map.1 hy;rw [List.length_map];exact heven z hz)]
            simp
          have hb:i*sz0+sz0<=xs.length*sz0:=by rw [<- Nat.succ_mul];exact Nat.mul_le_mul_right _ hi
          refine fin ?_
          rw [show o+i*sz0+j=o+(i*sz0+j) by omega]
          refine Dj h hS rfl rfl hmu hsz (new.map .d) (i*sz0+j) (by rw [List.length_map,hlen];exact c1) (λk a1 a2 => ?_) (hx.cells_ones h3) (by simpa using h1') (by rw [hall];omega) ?_ rfl ?_ rfl rfl
          · rw [List.getElem_map]
            exact .d (vz hnew k (c1 ▸ a1) (by simpa using a2) _ (c2 k a1 (c1 ▸ a1)))
          · show ((xs.set i (splice xs[i] new j)).map λx=>x.map V.d).flatten=splice ((xs.map λx=>x.map V.d).flatten) (new.map .d) (i*sz0+j)
            rw [List.map_set,Io]
            have:=zq sz0 (xs.map λx=>x.map V.d) (λy hy=>by obtain ⟨z,hz,rfl⟩:=List.mem_map.1 hy;rw [List.length_map];exact heven z hz) i j (new.map .d) (by simpa using hi) (by simp;omega)
            simpa using this
          · exact MG heven i _ hsl
      · cases hf
    · cases hf
  · rename_i k
    cases hc:(Nat.beq (aW x).length size&&Nat.ble size k&&(aW x).all iq&&Nat.blt 0 size)with
    | false=>simp only [hc,cond_false]at hf;cases hf
    | true =>
      simp only [hc,cond_true,so_]at hf
      subst hf
      simp only [Bool.and_eq_true]at hc
      obtain ⟨⟨⟨h1,h2⟩,h3⟩,h4⟩:=hc
      have h1':=Nat.eq_of_beq_eq_true h1
      have h2':=Nat.le_of_ble_eq_true h2
      have h4':0<size:=by simpa [Nat.blt_eq]using h4
      obtain ⟨c1,c2⟩:=hx.cells h3
      have huo:=hx.cells_ones h3
      cases ha.d_inv with
      | wildp b off _ m ht hm hfr hbd =>
        obtain ⟨arr,elem,harr⟩:=ht
        rw [aZ harr]at hbd
        have hul:v.cells.toList.length=size:=c1.trans h1'
        have hcl:v.cells.size=size:=by rw [<- hul];simp
        have hfit:off+v.cells.toList.length<=arr.toList.length:=by rw [hul];simp;omega
        have hrun:=run_storeCells_at P b off elem v.cells.toList 0 arr w harr (by simp;simp at hfit;omega) huo
        have hrun':(storeCells ⟨b,off,none⟩ v.cells.toList).run P w = .ok () (w.setRow b (splice arr.toList v.cells.toList off).toArray):=hrun
        obtain ⟨i,e⟩:=HY h harr hm v.cells.toList (by omega) hfit (λo a1 a2=>hfr o a1 (by omega))
        refine⟨.skip,undef,_,G,?_,.inr ⟨rfl,rfl⟩,e,i.mono (λ_ x => .inl x),.none⟩
        simp only [Instr.storeAt,Instr.sureAddr,Sem.run_bind,Sem.run_pure,Result.andThen_ok,storeVar,run_sizeOf hsz,hcl,ne_eq,not_true_eq_false,if_false,hrun']
  · cases hf
end
end Go.Eng

/-
  THE ENGINE: what makes memory (alloc, box, literals of structs and slices), and the plain operations.
-/
namespace Go.Eng
set_option linter.unusedSectionVars false
variable [DM]
variable {P:Program}
section
variable {E:Env} {G:Gh} {w:World} {S:Store} {tk:Nat} {U:Nat->Prop}
theorem kw (G:Gh) (w:World) (c:Value):RepV G w c (mZ c):=by
  unfold mZ
  split
  · exact .d (.int _ _)
  · exact .d (.bool _)
  · exact .d (.str _)
  · exact .nil _
  · exact .d .nilp
  · exact .nilm
  · exact .nili
  · exact .any _
theorem FB (G:Gh) (w:World) (v:Value):RepV G w v (valV v):=by
  unfold valV
  split
  · rename_i cs
    have:Value.agg cs=Value.agg cs.toList.toArray:=by simp
    rw [this]
    exact kV (by simp) (λi h1 h2=>by rw [List.getElem_map];exact kw G w _)
  · rename_i vs
    split
    · rename_i h
      have:vs = #[]:=by simpa using h
      subst this
      exact .none
    · exact .any _
  · exact kw G w _
theorem vP (h:Inv E G w S tk U) {dst:Nat} (hdl:dst<100000) (hd:¬U dst) (elem:TypeId) (arr:Array Value) (vs:List V) (hl:arr.toList.length=vs.length) (hlt:vs.length<1048576) (hones:vs.all iq=true)
    (hr:∀i (h1:i<arr.toList.length) (h2:i<vs.length),RepV G w arr.toList[i] vs[i]) {s:Sem Value}
    (hrun:s.run P w = .ok (.pointer (some ⟨w.heap.size,0,none⟩)) (w.alloc (.cells arr elem))) :
    dC P E (do pure (.value (<- s))) (some dst) G w S tk U ⟨[],[((dst,tk),some (.cells vs.length vs))],.ref (dst,tk) 0 0⟩:=by
  obtain ⟨h1,h2⟩:=h.allocBox dst hd (.cells arr elem) (.cells vs.length vs) (λG' hG' e=>by
    have hb:=fI w (.cells arr elem)
    have hs:Stands G' (w.alloc (.cells arr elem)) (.cells vs.length vs) w.heap.size 0 vs.length :=
      { sz:=rfl,even:=trivial
        room:=by rw [aZ hb];show 0+vs.length<=_;simp at hl;omega
        cell:=λj hj=>by
          have hj':j<vs.length:=hj
          have hj2:j<arr.toList.length:=by omega
          refine⟨arr.toList[j],?_,(hr j hj2 hj').oneCell (List.all_eq_true.1 hones _ (List.getElem_mem _)),(hr j hj2 hj').ext e⟩
          rw [cell_of_row hb,Nat.zero_add,<- Array.getElem?_toList,List.getElem?_eq_getElem hj2]
        free:=λ_=>⟨⟨arr,elem,hb⟩,λo' ho'=>Nat.lt_irrefl _ (h.immB _ _ ((hG' _ _).1 ho'))⟩
        froz:=λhx=>by simp [Box.mut]at hx
        cel:=⟨λ_=>rfl,λhs=>absurd hs (Nat.not_le_of_lt hlt)⟩ }
    exact hs)
  refine⟨.value (.pointer (some ⟨w.heap.size,0,none⟩)),.pointer (some ⟨w.heap.size,0,none⟩),_,_,by simp only [Sem.run_bind,hrun,Result.andThen_ok,Sem.run_pure],.inl rfl,h2,h1.mono (λn hn=>hn.imp id (λe=>by rw [e,Nat.mod_eq_of_lt hdl])),?_⟩
  have:(⟨w.heap.size,0,none⟩:Addr)=⟨w.heap.size,0+0*vs.length+0,none⟩:=by simp
  rw [this]
  exact .ref 0 0 (by simp [Box.sz])
theorem kL (w:World) (elem:TypeId) (cells:Array Value):(newRow elem cells).run P w = .ok ⟨w.heap.size,0,none⟩ (w.alloc (.cells cells elem)):=rfl
theorem sJ (w:World) (t:TypeId) (v:Value):(newVar t v).run P w = .ok ⟨w.heap.size,0,none⟩ (w.alloc (.cells v.cells t)):=rfl
theorem boxF_ok (h:Inv E G w S tk U) {dst:Nat} (hdl:dst<100000) (hd:¬U dst) {t:TypeId} {u:Value} {x:V} {A:Eff} (hx:RepV G w u x) (hf:HZ x dst tk=some A) :
    dC P E (do pure (.value (<- Instr.box t u))) (some dst) G w S tk U A:=by
  unfold HZ at hf
  cases hob:((aW x).all iq&&Nat.blt (aW x).length 1048576)with
  | false=>simp only [hob,cond_false]at hf;cases hf
  | true =>
  simp only [hob,cond_true,so_]at hf
  subst hf
  obtain ⟨ho,hlt⟩:=(Bool.and_eq_true _ _).mp hob
  obtain ⟨c1,c2⟩:=hx.cells ho
  exact vP h hdl hd t u.cells (aW x) c1 (by simpa [Nat.blt_eq]using hlt) ho c2 (by simp [Instr.box,sJ])
theorem jK {t:TypeId} {z:Value} (h:(P.info? t).bind (·.zero)=some z) (w:World):(zeroValue t).run P w = .ok z w:=by
  cases hi:P.info? t with
  | none=>simp [hi]at h
  | some i =>
    simp only [hi,ob_]at h
    simp [zeroValue,typeInfo,hi,h]
theorem KU (h:Inv E G w S tk U) {dst:Nat} (hdl:dst<100000) (hd:¬U dst) {t:TypeId} {A:Eff} (hf:uC P t dst tk=some A) :
    dC P E (do pure (.value (<- Instr.alloc t true (.tuple #[])))) (some dst) G w S tk U A:=by
  unfold uC zeroCells at hf
  split at hf
  · rename_i cs hcs
    cases hob:(cs.all iq&&Nat.blt cs.length 1048576)with
    | false=>simp only [hob,cond_false]at hf;cases hf
    | true =>
    simp only [hob,cond_true,so_]at hf
    subst hf
    obtain ⟨ho,hlt⟩:=(Bool.and_eq_true _ _).mp hob
    simp only [Option.map_eq_some_iff]at hcs
    obtain ⟨z,hz,rfl⟩:=hcs
    exact vP h hdl hd t z.cells (z.cells.toList.map mZ) (by simp) (by simpa [Nat.blt_eq]using hlt) ho (λi h1 h2=>by rw [List.getElem_map];exact kw G w _)
      (by simp [Instr.alloc,jK hz,sJ])
  · cases hf
theorem H5 (h:Inv E G w S tk U) {dst:Nat} (hdl:dst<100000) (hd:¬U dst) {t:TypeId} {A:Eff} (hf:ql P t dst tk=some A) :
    dC P E (do pure (.value (<- Instr.alloc t true (.tuple #[])))) (some dst) G w S tk U A:=by
  unfold ql zeroCells at hf
  split at hf
  · rename_i hcs
    simp only [so_]at hf
    subst hf
    simp only [Option.map_eq_some_iff]at hcs
    obtain ⟨z,hz,hzc⟩:=hcs
    obtain ⟨c0,c1,hz2,e0,e1⟩:∃c0 c1,z.cells.toList=[c0,c1]/\mZ c0 = .d .nilp/\mZ c1 = .nil:=by
      match hl:z.cells.toList,hzc with
      | [c0,c1],hzc =>
        simp only [List.map_cons,List.map_nil,List.cons.injEq,and_true]at hzc
        exact⟨c0,c1,rfl,hzc.1,hzc.2⟩
      | [],hzc=>simp at hzc
      | [_],hzc=>simp at hzc
      | _::_::_::_,hzc=>simp at hzc
    have hz3:z.cells = #[c0,c1]:=Array.ext' hz2
    have h0:c0 = .pointer none:=by
      cases c0 with
      | pointer p=>cases p with
        | none=>rfl
        | some a=>simp [mZ]at e0
      | slice a l k =>
        exfalso
        unfold mZ at e0
        split at e0 <;> first | (cases e0;done) | (rename_i hq;cases hq)
      | map m=>cases m <;> simp [mZ]at e0
      | _=>simp [mZ]at e0
    subst h0
    have h1:c1 = .slice none 0 0:=by
      cases c1 with
      | pointer p=>cases p with
        | none=>simp [mZ]at e1
        | some a=>simp [mZ]at e1
      | slice a l k =>
        unfold mZ at e1
        split at e1 <;> first | (cases e1;done) | (rename_i hq;cases hq;done) | assumption
      | map m=>cases m <;> simp [mZ]at e1
      | _=>simp [mZ]at e1
    subst h1
    have hb:=fI w (.cells #[Value.pointer none,Value.slice none 0 0] t)
    obtain ⟨i1,i2⟩:=h.allocBox dst hd (.cells #[Value.pointer none,Value.slice none 0 0] t) (.cells (1048576+t) [.any,.nil]) (λG' hG' e=>by
      have hs:Stands G' (w.alloc (.cells #[Value.pointer none,Value.slice none 0 0] t)) (.cells (1048576+t) [.any,.nil]) w.heap.size 0 (1048576+t) :=
        { sz:=rfl,even:=trivial
          room:=by rw [aZ hb];show 0+2<=2;omega
          cell:=λj hj=>by
            have hj':j<2:=hj
            match j,hj' with
            | 0,_=>exact⟨.pointer none,by rw [cell_of_row hb];rfl,rfl,.any _⟩
            | 1,_=>exact⟨.slice none 0 0,by rw [cell_of_row hb];rfl,rfl,.nil none⟩
          free:=λ_=>⟨⟨_,t,hb⟩,λo' ho'=>Nat.lt_irrefl _ (h.immB _ _ ((hG' _ _).1 ho'))⟩
          froz:=λhx=>by simp [Box.mut]at hx
          cel:=⟨λ_=>rfl,λ_=>⟨_,_,by rw [Nat.add_sub_cancel_left];exact hb,.inl rfl,.inl rfl⟩⟩ }
      exact hs)
    refine⟨.value (.pointer (some ⟨w.heap.size,0,none⟩)),.pointer (some ⟨w.heap.size,0,none⟩),_,_,?_,.inl rfl,i2,i1.mono (λn hn=>hn.imp id (λe=>by rw [e,Nat.mod_eq_of_lt hdl])),?_⟩
    · have hrun:(Instr.alloc t true (.tuple #[])).run P w = .ok (.pointer (some ⟨w.heap.size,0,none⟩)) (w.alloc (.cells #[Value.pointer none,Value.slice none 0 0] t)):=by
        simp [Instr.alloc,jK hz,sJ,hz3]
      simp only [Sem.run_bind,hrun,Result.andThen_ok,Sem.run_pure]
    · have:(⟨w.heap.size,0,none⟩:Addr)=⟨w.heap.size,0+0*(1048576+t)+0,none⟩:=by simp
      rw [this]
      exact .ref 0 0 (by simp [Box.sz])
  · cases hf
theorem ML {α β:Type} (arr:Array α) (f:α->Sem β) (g:α->β) (w:World) (h:∀x∈arr,(f x).run P w = .ok (g x) w) :
    (arr.mapM f).run P w = .ok (arr.map g) w:=by
  have hl:∀l:List α,(∀x∈l,(f x).run P w = .ok (g x) w)->(l.mapM f).run P w = .ok (l.map g) w:=by
    intro l
    induction l with
    | nil=>intro _;simp
    | cons x l ih =>
      intro hx
      simp [List.mapM_cons,hx x (by simp),ih (λy hy=>hx y (by simp [hy]))]
  rw [Array.mapM_eq_mapM_toList]
  simp only [Sem.run_map,hl arr.toList (λx hx=>h x (by simpa using hx)),Result.andThen_ok]
  congr 1
  apply Array.ext'
  simp
theorem sH:∀(new:List Value) (k:Nat) (cells:Array Value) (off:Nat),off+k+new.length<=cells.size ->
    ((new.zipIdx k).foldl (λcs (c,j)=>cs.setIfInBounds (off+j) c) cells).toList=splice cells.toList new (off+k)
  | [],k,cells,off,_=>by simp [splice]
  | c::new,k,cells,off,h=>by
    simp only [List.length_cons]at h
    simp only [List.zipIdx_cons,List.foldl_cons]
    rw [sH new (k+1) _ off (by simp;omega)]
    simp only [Array.toList_setIfInBounds]
    apply List.ext_getElem?
    intro i
    have l1:(cells.toList.set (off+k) c).length=cells.size:=by simp
    rw [l5 _ _ _ (by rw [l1];omega),l5 _ _ _ (by simp;omega)]
    simp only [List.length_cons]
    by_cases h1:i=off+k
    · subst h1
      rw [if_neg (by omega),if_pos (by omega),List.getElem?_set_self (by simp;omega)]
      simp
    · by_cases h2:off+(k+1)<=i/\i<off+(k+1)+new.length
      · rw [if_pos h2,if_pos (by omega),show i-(off+k)=(i-(off+(k+1)))+1 by omega,List.getElem?_cons_succ]
      · rw [if_neg h2,if_neg (by omega),List.getElem?_set_ne (by omega)]
theorem oC (new:Array Value) (cells:Array Value) (off:Nat) :
    (new.zipIdx.foldl (λcs (x:Value×Nat)=>cs.setIfInBounds (off+x.2) x.1) cells)=(new.toList.zipIdx 0).foldl (λcs (x:Value×Nat)=>cs.setIfInBounds (off+x.2) x.1) cells:=by
  rw [<- Array.foldl_toList];congr 1;simp
def mR (G:Gh) (w:World) (us:List Value) (vs:List V):Prop :=
  us.length=vs.length/\∀i (h1:i<us.length) (h2:i<vs.length),RepV G w us[i] vs[i]
theorem mR.splice {us new:List Value} {vs vnew:List V} (h:mR G w us vs) (hn:mR G w new vnew) (o:Nat) (ho:o+new.length<=us.length) :
    mR G w (Eng.splice us new o) (Eng.splice vs vnew o):=by
  have ho':o+vnew.length<=vs.length:=by rw [<- hn.1,<- h.1];exact ho
  refine⟨by rw [bH _ _ _ ho,bH _ _ _ ho',h.1],λi h1 h2 => ?_⟩
  rw [kI _ _ _ ho,kI _ _ _ ho']
  by_cases hin:o<=i/\i<o+new.length
  · rw [dif_pos hin,dif_pos (by rw [<- hn.1];exact hin)]
    exact hn.2 _ _ _
  · rw [dif_neg hin,dif_neg (by rw [<- hn.1];exact hin)]
    exact h.2 _ _ _
theorem E8 (place:Nat->Option (Nat×Nat)):∀(parts:List (Nat×Value)) (vparts:List (Nat×V)) (cells:Array Value) (vcells out:List V),
    parts.length=vparts.length->(∀i (h1:i<parts.length) (h2:i<vparts.length),parts[i].1=vparts[i].1/\RepV G w parts[i].2 vparts[i].2) ->
    (∀p∈vparts,(aW p.2).all iq=true) ->
    mR G w cells.toList vcells->vX place vcells vparts=some out->∃res,Instr.fill place cells parts=some res/\mR G w res.toList out
  | [],[],cells,vcells,out,_,_,_,hc,hf=>by
    simp only [vX,so_]at hf
    subst hf
    exact⟨cells,rfl,hc⟩
  | [],_::_,_,_,_,hl,_,_,_,_=>by simp at hl
  | _::_,[],_,_,_,hl,_,_,_,_=>by simp at hl
  | (i,u)::parts,(j,x)::vparts,cells,vcells,out,hl,hp,ho,hc,hf=>by
    have h0:=hp 0 (by simp) (by simp)
    simp only [List.getElem_cons_zero]at h0
    obtain ⟨rfl,hx⟩:=h0
    simp only [vX]at hf
    split at hf
    · cases hf
    rename_i off size hpl
    cases hcnd:(Nat.beq (aW x).length size&&Nat.ble (off+size) vcells.length)with
    | false=>simp only [hcnd,cond_false]at hf;cases hf
    | true =>
      simp only [hcnd,cond_true]at hf
      simp only [Bool.and_eq_true]at hcnd
      have e1:=Nat.eq_of_beq_eq_true hcnd.1
      have e2:=Nat.le_of_ble_eq_true hcnd.2
      obtain ⟨c1,c2⟩:=hx.cells (ho (i,x) (by simp))
      have hus:u.cells.size=size:=by rw [<- e1,<- c1];simp
      have hcl:cells.size=vcells.length:=by have:=hc.1;simpa using this
      simp only [Instr.fill,hpl]
      rw [if_neg (by simp [hus];omega),oC]
      have hfold:=sH u.cells.toList 0 cells off (by simp;omega)
      refine E8 place parts vparts _ (splice vcells (aW x) off) out (by simpa using hl) (λk a1 a2=>hp (k+1) (Nat.succ_lt_succ a1) (Nat.succ_lt_succ a2)) (λp hp'=>ho p (by simp [hp'])) ?_ hf
      rw [hfold]
      exact hc.splice ⟨c1,c2⟩ off (by simp;omega)
theorem run_build (t:TypeId) (parts:Array (Nat×Value)) {fs:Array Field} (hu:P.underlying t=some (.struct fs)) (hall:∀f∈fs,(P.info? f.type).isSome=true) {z:Value}
    (hz:(P.info? t).bind (·.zero)=some z) (w:World) {res:Array Value}
    (hf:Instr.fill (λi=>(fs.map λf=>(f.offset,((P.info? f.type).map (·.size)).getD 0))[i]?) z.cells parts.toList=some res) :
    (Instr.build t parts).run P w = .ok (.agg res) w:=by
  have hm:(fs.mapM (λ(f:Field)=>do pure (f.offset,<- sizeOf f.type))).run P w = .ok (fs.map λf=>(f.offset,((P.info? f.type).map (·.size)).getD 0)) w:=by
    refine ML fs _ _ w (λf hf => ?_)
    have:=hall f hf
    cases hi:P.info? f.type with
    | none=>simp [hi]at this
    | some i=>simp [sizeOf,typeInfo,hi]
  unfold Instr.build
  simp only [Sem.run_bind,jK hz,Result.andThen_ok,aQ hu,hm]
  simp only [hf,Sem.run_pure]
theorem KL {t:TypeId} {parts:Array (Nat×Value)} {vparts:List (Nat×V)} {v:V}
    (hl:parts.toList.length=vparts.length) (hp:∀i (h1:i<parts.toList.length) (h2:i<vparts.length),parts.toList[i].1=vparts[i].1/\RepV G w parts.toList[i].2 vparts[i].2)
    (ho:∀p∈vparts,(aW p.2).all iq=true) (hf:EN P t vparts=some v) :
    ∃u,(Instr.build t parts).run P w = .ok u w/\RepV G w u v:=by
  unfold EN at hf
  cases hs:isStruct P t with
  | false =>
    simp only [hs,cond_false]at hf
    unfold arrT at hf
    split at hf
    · rename_i size zc hsz hz
      split at hsz
      · rename_i n e hu
        simp only [zeroCells,Option.map_eq_some_iff]at hz
        obtain ⟨z,hz,rfl⟩:=hz
        simp only [Option.map_eq_some_iff]at hf
        obtain ⟨out,hfill,rfl⟩:=hf
        obtain ⟨inf,d,i1,i2,_⟩:=qY hsz
        obtain ⟨res,r1,r2⟩:=E8 (G:=G) (w:=w) _ parts.toList vparts z.cells (z.cells.toList.map mZ) out hl hp ho
          ⟨by simp,λi h1 h2=>by rw [List.getElem_map];exact kw G w _⟩ hfill
        refine⟨.agg res,?_,?_⟩
        · unfold Instr.build
          simp only [Sem.run_bind,jK hz,Result.andThen_ok,aQ hu]
          have hs':(sizeOf e).run P w = .ok size w:=by simp [sizeOf,typeInfo,i1,i2]
          simp only [hs',Result.andThen_ok,r1,Sem.run_pure]
        · have:Value.agg res=Value.agg res.toList.toArray:=by simp
          rw [this]
          exact kV r2.1 r2.2
      · cases hsz
    · cases hf
  | true =>
    simp only [hs,cond_true]at hf
    unfold isStruct at hs
    split at hs
    · rename_i fs hu
      split at hf
      · rename_i zc hz
        simp only [zeroCells,Option.map_eq_some_iff]at hz
        obtain ⟨z,hz,rfl⟩:=hz
        simp only [Option.map_eq_some_iff]at hf
        obtain ⟨out,hfill,rfl⟩:=hf
        have hall:∀f∈fs,(P.info? f.type).isSome=true:=by
          intro f hf
          obtain ⟨i,hi,rfl⟩:=Array.getElem_of_mem hf
          exact (Array.all_eq_true.1 hs) i hi
        have hplace:vX (λi=>(fs.map λf=>(f.offset,((P.info? f.type).map (·.size)).getD 0))[i]?) (z.cells.toList.map mZ) vparts=some out:=by
          have key:∀(l:List (Nat×V)) (cells:List V) (out:List V),vX (fC P t) cells l=some out ->
              vX (λi=>(fs.map λf=>(f.offset,((P.info? f.type).map (·.size)).getD 0))[i]?) cells l=some out:=by
            intro l
            induction l with
            | nil=>intro cells out h;exact h
            | cons p l ih =>
              intro cells out h
              obtain ⟨i,x⟩:=p
              simp only [vX]at h ⊢
              split at h
              · cases h
              rename_i off size hpl
              unfold fC tY at hpl
              simp only [hu]at hpl
              split at hpl
              · rename_i fd hfd
                simp only [Option.map_eq_some_iff,Prod.mk.injEq]at hpl
                obtain ⟨s,hs1,rfl,rfl⟩:=hpl
                obtain ⟨inf,d,i1,i2,_⟩:=qY hs1
                have hget:(fs.map λf=>(f.offset,((P.info? f.type).map (·.size)).getD 0))[i]? = some (fd.offset,s):=by
                  rw [Array.getElem?_map,hfd];simp [i1,i2]
                simp only [hget]
                cases hc:(Nat.beq (aW x).length s&&Nat.ble (fd.offset+s) cells.length)with
                | false=>simp only [hc,cond_false]at h;cases h
                | true=>simp only [hc,cond_true]at h ⊢;exact ih _ _ h
              · cases hpl
          exact key _ _ _ hfill
        obtain ⟨res,r1,r2⟩:=E8 (G:=G) (w:=w) _ parts.toList vparts z.cells (z.cells.toList.map mZ) out hl hp ho
          ⟨by simp,λi h1 h2=>by rw [List.getElem_map];exact kw G w _⟩ hplace
        refine⟨.agg res,run_build t parts hu hall hz w r1,?_⟩
        have:Value.agg res=Value.agg res.toList.toArray:=by simp
        rw [this]
        exact kV r2.1 r2.2
      · cases hf
    · cases hs
end
end Go.Eng

/-
  THE ENGINE: addresses of elements and fields, arithmetic and comparisons, lengths, slices of slices.
-/
namespace Go.Eng
set_option linter.unusedSectionVars false
variable [DM]
variable {P:Program}
section
variable {E:Env} {G:Gh} {w:World} {S:Store} {tk:Nat} {U:Nat->Prop} {dst:Option Nat}
theorem RepD.int_inv {I:Nat->Nat->Prop} {u:Value} {k:IntKind} {n:Int} (h:RepD I w u (.int k n)):u = .int k n:=by cases h;rfl
theorem RepD.bool_inv {I:Nat->Nat->Prop} {u:Value} {b:Bool} (h:RepD I w u (.bool b)):u = .bool b:=by cases h;rfl
theorem RepD.str_inv {I:Nat->Nat->Prop} {u:Value} {s:ByteArray} (h:RepD I w u (.str s)):u = .string s:=by cases h;rfl
theorem iE {t e:TypeId} (h:elemT P t=some e):P.underlying t=some (.slice e):=by
  unfold elemT at h
  split at h
  · rename_i e' he;simp only [so_]at h;subst h;exact he
  · cases h
theorem RepD.sl_len {I:Nat->Nat->Prop} {u:Value} {xs:List (List D)} (h:RepD I w u (.sl xs)):∃a cap,u = .slice a xs.length cap/\xs.length<=cap\/∃a cap,u = .slice a 0 cap/\xs=[]:=by
  cases h with
  | sl0 a cap=>exact⟨none,0,.inr ⟨a,cap,rfl,rfl⟩⟩
  | sl b off cap sz xs us hcap hsz hI hc ho h=>exact⟨_,_,.inl ⟨rfl,hcap⟩⟩
theorem Co (h:Inv E G w S tk U) {t:TypeId} {u v:Value} {x i:V} {A:Eff} (hx:RepV G w u x) (hi:RepV G w v i) (hf:jD P t x i=some A) :
    dC P E (do pure (.value (<- Instr.indexAt t u v))) dst G w S tk U A:=by
  unfold jD at hf
  split at hf
  · rename_i size k n hsz
    simp only [Option.bind_eq_some_iff]at hsz
    obtain ⟨e,he,hsz⟩:=hsz
    have hu:=iE he
    have hv:=hi.d_inv.int_inv
    subst hv
    cases hn:decide (0<=n)with
    | false=>simp only [hn,cond_false]at hf;cases hf
    | true =>
      have hn':0<=n:=of_decide_eq_true hn
      simp only [hn,cond_true]at hf
      split at hf
      · rename_i xs
        split at hf
        · rename_i cs hcs
          cases hb:Nat.beq cs.length size with
          | false=>simp only [hb,cond_false]at hf;cases hf
          | true =>
            simp only [hb,cond_true]at hf
            rw [dN hf]
            obtain ⟨hlt,rfl⟩:=List.getElem?_eq_some_iff.1 hcs
            have hb':=Nat.eq_of_beq_eq_true hb
            cases hx.d_inv with
            | sl0 a cap=>simp at hlt
            | sl b off cap sz _ us hcap hs hI hc _ hr =>
              have hsz':sz=size:=by rw [<- hs _ hlt,hb']
              subst hsz'
              refine dC.still h (u := .pointer (some ⟨b,off+n.toNat*sz,none⟩)) ?_ ?_
              · have h1:(0<=n/\n<(xs.length:Int)):=⟨hn',by omega⟩
                simp only [Instr.indexAt,asIntOf,Sem.run_bind,Sem.run_pure,Result.andThen_ok,aQ hu,h1,run_sizeOf hsz,addr_add,and_self,if_true]
              · exact .d (.ptr _ _ _ (λj=>us n.toNat j) (λj hj=>hI _ j hlt (by omega)) (λj hj=>hc _ j hlt (by omega)) (λj hj=>hr _ j hlt hj))
        · cases hf
      · rename_i n' sz k len
        cases hb:(Nat.ble (n.toNat+1) len&&Nat.beq sz size)with
        | false=>simp only [hb,cond_false]at hf;cases hf
        | true =>
          simp only [hb,cond_true]at hf
          rw [dN hf]
          simp only [Bool.and_eq_true]at hb
          have h1:=Nat.le_of_ble_eq_true hb.1
          have h2:=Nat.eq_of_beq_eq_true hb.2
          subst h2
          cases hx with
          | vs0=>omega
          | vs _ _ cap hmu hc hbd =>
            rename_i b o
            refine dC.still h (u := .pointer (some ⟨b,o+k*sz+n.toNat*sz,none⟩)) ?_ ?_
            · have h1:(0<=n/\n<(len:Int)):=⟨hn',by omega⟩
              simp only [Instr.indexAt,asIntOf,Sem.run_bind,Sem.run_pure,Result.andThen_ok,aQ hu,h1,run_sizeOf hsz,addr_add,and_self,if_true]
            · have:o+k*sz+n.toNat*sz=o+(k+n.toNat)*sz+0:=by rw [Nat.add_mul];omega
              rw [this]
              exact .ref _ _ hmu
      · rename_i sz len
        cases hb:(Nat.ble (n.toNat+1) len&&Nat.beq sz size)with
        | false=>simp only [hb,cond_false]at hf;cases hf
        | true =>
          simp only [hb,cond_true]at hf
          rw [dN hf]
          simp only [Bool.and_eq_true]at hb
          have h1:=Nat.le_of_ble_eq_true hb.1
          have h2:=Nat.eq_of_beq_eq_true hb.2
          subst h2
          cases hx.d_inv with
          | wild0=>omega
          | wild b off cap _ _ m ht hm hfr hbd =>
            have hle:n.toNat*sz+sz<=len*sz:=by rw [<- Nat.succ_mul];exact Nat.mul_le_mul_right _ h1
            refine dC.still h (u := .pointer (some ⟨b,off+n.toNat*sz,none⟩)) ?_ (.d (.wildp b _ sz m ht hm (λo a c=>hfr o (by omega) (by omega)) (by omega)))
            have h1:(0<=n/\n<(len:Int)):=⟨hn',by omega⟩
            simp only [Instr.indexAt,asIntOf,Sem.run_bind,Sem.run_pure,Result.andThen_ok,aQ hu,h1,run_sizeOf hsz,addr_add,and_self,if_true]
      · cases hf
  · cases hf
theorem zt {t:TypeId} {f:Nat} {fd:Field} (h:tY P t f=some fd):∃fs,P.underlying t=some (.struct fs)/\fs[f]? = some fd:=by
  unfold tY at h
  split at h
  · rename_i fs hfs;exact⟨fs,hfs,h⟩
  · cases h
theorem CF (h:Inv E G w S tk U) {t:TypeId} {u:Value} {x:V} {f:Nat} {A:Eff} (hx:RepV G w u x) (hf:iI P t x f=some A) :
    dC P E (do pure (.value (<- Instr.fieldAt t u f))) dst G w S tk U A:=by
  unfold iI at hf
  split at hf
  · rename_i fd hfd
    obtain ⟨fs,hu,hg⟩:=zt hfd
    split at hf
    · rename_i s hsz
      have hrun:∀b o,(Instr.fieldAt t (.pointer (some ⟨b,o,none⟩)) f).run P w = .ok (.pointer (some ⟨b,o+fd.offset,none⟩)) w:=by
        intro b o
        simp only [Instr.fieldAt,Sem.run_bind,aQ hu,Result.andThen_ok,hg,Instr.sureAddr,Sem.run_pure,fieldPlace,run_sizeOf hsz,addr_add]
        simp
      split at hf
      · rename_i cs
        cases hb:Nat.ble fd.offset cs.length with
        | false=>simp only [hb,cond_false]at hf;cases hf
        | true =>
          simp only [hb,cond_true]at hf
          rw [dN hf]
          have hb':=Nat.le_of_ble_eq_true hb
          cases hx.d_inv with
          | ptr _ _ _ us hI hc hr =>
            refine dC.still h (hrun _ _) (.d (.ptr _ _ _ (λj=>us (fd.offset+j)) (λj hj => ?_) (λj hj => ?_) (λj hj => ?_)))
            · simp only [List.length_drop]at hj
              rw [Nat.add_assoc];exact hI _ (by omega)
            · simp only [List.length_drop]at hj
              rw [Nat.add_assoc];exact hc _ (by omega)
            · rw [List.getElem_drop];exact hr _ (by simp only [List.length_drop]at hj;omega)
      · rename_i n i j
        rw [dN hf]
        obtain ⟨b,o,sz,hmu,rfl⟩:=hx.ref_inv
        refine dC.still h (hrun _ _) ?_
        rw [Nat.add_assoc]
        exact .ref i (j+fd.offset) hmu
      · cases hf
    · cases hf
  · cases hf
theorem BF {t:TypeId} {size:Nat} (hsz:szT P t=some size) (w:World) (cs:Array Value) (off:Nat) :
    (part t cs off).run P w=if cO P t then .ok (.agg (cs.extract off (off+size))) w else match cs[off]? with
      | some v => .ok v w
      | none => .halt (.stuck "part: no such cell") w := by
  simp only [part,Sem.run_bind,yK hsz,Result.andThen_ok]
  split
  · simp only [Sem.run_bind,run_sizeOf hsz,Result.andThen_ok,Sem.run_pure]
  · generalize cs[off]? = r
    cases r <;> rfl
theorem xQ {t:TypeId} {size:Nat} (hsz:szT P t=some size) (w:World) (arr:List Value) (ds:List D) (off:Nat) (hl:arr.length=ds.length)
    (hr:∀i (h1:i<arr.length) (h2:i<ds.length),RepD G.imm w arr[i] ds[i]) {v:V} (h:rdD (cO P t) size (ds.drop off)=some v) :
    ∃u,(part t arr.toArray off).run P w = .ok u w/\RepV G w u v:=by
  rw [BF hsz]
  unfold rdD at h
  cases ha:cO P t with
  | true =>
    simp only [ha,cond_true]at h
    cases hb:Nat.ble size (ds.drop off).length with
    | false=>simp only [hb,cond_false]at h;cases h
    | true =>
      simp only [hb,cond_true,so_]at h
      subst h
      have hb':=Nat.le_of_ble_eq_true hb
      simp only [List.length_drop]at hb'
      refine⟨_,rfl,.d ?_⟩
      have e:arr.toArray.extract off (off+size)=((arr.drop off).take size).toArray:=by
        apply Array.ext'
        simp [List.extract_eq_take_drop]
      rw [e]
      refine .agg _ _ (by simp;omega) (λi h1 h2 => ?_)
      simp only [List.getElem_take,List.getElem_drop]
      simp at h1 h2
      exact hr _ (by omega) (by omega)
  | false =>
    simp only [ha,cond_false]at h
    split at h
    · rename_i c rest hc
      simp only [so_]at h
      subst h
      have hlt:off<ds.length:=by
        rcases Nat.lt_or_ge off ds.length with h|h
        · exact h
        · rw [List.drop_eq_nil_of_le h]at hc;cases hc
      have hd:ds[off]=c:=by
        rw [List.drop_eq_getElem_cons hlt]at hc
        exact (List.cons.inj hc).1
      refine⟨arr[off],by simp [show off<arr.length by omega],.d ?_⟩
      rw [<- hd]
      exact hr off (by omega) hlt
    · cases h
theorem LF {t:TypeId} {size:Nat} (hsz:szT P t=some size) (w:World) (arr:List Value) (ds:List V) (off:Nat) (hl:arr.length=ds.length)
    (hr:∀i (h1:i<arr.length) (h2:i<ds.length),RepV G w arr[i] ds[i]) {v:V} (h:rdV (cO P t) size (ds.drop off)=some v) :
    ∃u,(part t arr.toArray off).run P w = .ok u w/\RepV G w u v:=by
  rw [BF hsz]
  unfold rdV at h
  cases ha:cO P t with
  | true =>
    simp only [ha,cond_true]at h
    cases hb:Nat.ble size (ds.drop off).length with
    | false=>simp only [hb,cond_false]at h;cases h
    | true =>
      simp only [hb,cond_true,so_]at h
      subst h
      have hb':=Nat.le_of_ble_eq_true hb
      simp only [List.length_drop]at hb'
      refine⟨_,rfl,?_⟩
      have e:arr.toArray.extract off (off+size)=((arr.drop off).take size).toArray:=by
        apply Array.ext'
        simp [List.extract_eq_take_drop]
      rw [e]
      refine kV (by simp;omega) (λi h1 h2 => ?_)
      simp only [List.getElem_take,List.getElem_drop]
      simp at h1 h2
      exact hr _ (by omega) (by omega)
  | false =>
    simp only [ha,cond_false]at h
    split at h
    · rename_i c rest hc
      simp only [so_]at h
      subst h
      have hlt:off<ds.length:=by
        rcases Nat.lt_or_ge off ds.length with h|h
        · exact h
        · rw [List.drop_eq_nil_of_le h]at hc;cases hc
      have hd:ds[off]=c:=by
        rw [List.drop_eq_getElem_cons hlt]at hc
        exact (List.cons.inj hc).1
      refine⟨arr[off],by simp [show off<arr.length by omega],?_⟩
      rw [<- hd]
      exact hr off (by omega) hlt
    · cases h
theorem KD {t:TypeId} {u:Value} {x v:V} {f:Nat} (hx:RepV G w u x) (hf:Ef P t x f=some v) :
    ∃r,(Instr.field t u f).run P w = .ok r w/\RepV G w r v:=by
  unfold Ef at hf
  split at hf
  · rename_i fd hfd
    obtain ⟨fs,hu,hg⟩:=zt hfd
    split at hf
    · rename_i size hsz
      split at hf
      · rename_i ds
        cases hx.d_inv with
        | agg arr _ hl hr =>
          obtain ⟨r,h1,h2⟩:=xQ hsz w arr ds fd.offset hl hr hf
          exact⟨r,by simpa [Instr.field,aQ hu,hg,asAgg]using h1,h2⟩
      · rename_i vs
        cases hx with
        | agg arr _ hl hr =>
          obtain ⟨r,h1,h2⟩:=LF hsz w arr vs fd.offset hl hr hf
          exact⟨r,by simpa [Instr.field,aQ hu,hg,asAgg]using h1,h2⟩
      · cases hf
    · cases hf
  · cases hf
theorem K7 {op:BinOp} (hs:EH op=false) {k:IntKind} {a b:Int} {x:D} (hf:Fb op k a b=some x) (t:TypeId) (w:World) :
    ∃r,(binOp op t (.int k a) (.int k b)).run P w = .ok r w/\∀I,RepD I w r x:=by
  have hq:∀{c:D},(if b=0 then Option.none else some c)=some x->b≠0/\c=x:=by
    intro c h
    by_cases hb:b=0
    · rw [if_pos hb]at h;cases h
    · rw [if_neg hb]at h;exact⟨hb,Option.some.inj h⟩
  cases op with
  | shl=>simp [EH]at hs
  | shr=>simp [EH]at hs
  | quo =>
    obtain ⟨hb,rfl⟩:=hq hf
    exact⟨.int k (k.wrap (a.tdiv b)),by simp [binOp,Op.intDiv,hb],λI => .int _ _⟩
  | rem =>
    obtain ⟨hb,rfl⟩:=hq hf
    exact⟨.int k (a.tmod b),by simp [binOp,Op.intDiv,hb],λI => .int _ _⟩
  | andNot=>cases hf
  | _ =>
    simp only [Fb,so_]at hf
    subst hf
    exact⟨_,by simp [binOp,Op.intArith,Op.intCmp,Op.intBits];rfl,λI=>by first | exact .int _ _ | exact .bool _⟩
theorem shOp_ok {op:BinOp} (_hs:EH op=true) {k k':IntKind} {a b:Int} {x:D} (hf:shOp op k a b=some x) (t:TypeId) (w:World) :
    ∃r,(binOp op t (.int k a) (.int k' b)).run P w = .ok r w/\∀I,RepD I w r x:=by
  unfold shOp at hf
  split at hf
  · cases hf
  rename_i hb
  split at hf
  · simp only [so_]at hf;subst hf
    exact⟨.int k (k.wrap (a*2 ^ (min b.toNat k.bits))),by simp [binOp,Op.shift,hb],λI => .int _ _⟩
  · simp only [so_]at hf;subst hf
    exact⟨.int k (a.fdiv (2 ^ (min b.toNat k.bits))),by simp [binOp,Op.shift,hb],λI => .int _ _⟩
  · cases hf
theorem MC {op:BinOp} {a b:ByteArray} {x:D} (hf:JM op a b=some x) (t:TypeId) (w:World) :
    ∃r,(binOp op t (.string a) (.string b)).run P w = .ok r w/\∀I,RepD I w r x:=by
  have hb:∀op,binOp op t (.string a) (.string b)=Op.stringOp op a b:=by intro op;cases op <;> simp [binOp]
  rw [hb]
  cases op <;> simp only [JM,so_]at hf <;>
    first
    | (subst hf;exact⟨_,rfl,λI => .bool _⟩)
    | (split at hf
       · cases hf
       · rename_i hb
         simp only [so_]at hf
         subst hf
         exact⟨.string (a++b),by simp only [Op.stringOp];rw [if_neg hb];rfl,λI => .str _⟩)
    | cases hf
theorem lu (op:BinOp) (t:TypeId) (x y:Operand) (a b:Value) (h:∀xs ys,¬(a = .agg xs/\b = .agg ys)) (h':¬(a = .nilIface/\b = .nilIface)) (w:World) :
    (eqGuard op t x y a b).run P w = .ok () w:=by
  unfold eqGuard
  split
  · rw [if_neg (by decide)]
    split
    · exact absurd ⟨rfl,rfl⟩ h'
    · exact absurd ⟨rfl,rfl⟩ (h _ _)
    · rfl
  · rw [if_neg (by decide)]
    split
    · exact absurd ⟨rfl,rfl⟩ h'
    · exact absurd ⟨rfl,rfl⟩ (h _ _)
    · rfl
  · rw [if_pos (by rfl)];rfl
theorem binF_ok {op:BinOp} {t:TypeId} {ox oy:Operand} {u u':Value} {x y v:V} (hx:RepV G w u x) (hy:RepV G w u' y) (hf:G5 op x y=some v) :
    ∃r,(do eqGuard op t ox oy u u';binOp op t u u').run P w = .ok r w/\RepV G w r v:=by
  unfold G5 at hf
  split at hf
  · rename_i k a k' b
    have e1:=hx.d_inv.int_inv
    have e2:=hy.d_inv.int_inv
    subst e1 e2
    have hg:=lu (P:=P) op t ox oy (.int k a) (.int k' b) (λ_ _ h=>by cases h.1) (λh=>by cases h.1) w
    cases hs:EH op with
    | true =>
      simp only [hs,cond_true,Option.map_eq_some_iff]at hf
      obtain ⟨x,hx,rfl⟩:=hf
      obtain ⟨r,h1,h2⟩:=shOp_ok (P:=P) (k':=k') hs hx t w
      exact⟨r,by simp [hg,h1],.d (h2 _)⟩
    | false =>
      simp only [hs,cond_false]at hf
      split at hf
      · rename_i hk
        subst hk
        simp only [Option.map_eq_some_iff]at hf
        obtain ⟨x,hx,rfl⟩:=hf
        obtain ⟨r,h1,h2⟩:=K7 (P:=P) hs hx t w
        exact⟨r,by simp [hg,h1],.d (h2 _)⟩
      · cases hf
  · rename_i a b
    have e1:=hx.d_inv.str_inv
    have e2:=hy.d_inv.str_inv
    subst e1 e2
    have hg:=lu (P:=P) op t ox oy (.string a) (.string b) (λ_ _ h=>by cases h.1) (λh=>by cases h.1) w
    simp only [Option.map_eq_some_iff]at hf
    obtain ⟨x,hx,rfl⟩:=hf
    obtain ⟨r,h1,h2⟩:=MC (P:=P) hx t w
    exact⟨r,by simp [hg,h1],.d (h2 _)⟩
  · cases hf
theorem unF_ok {op:UnOp} {u:Value} {x v:V} (hx:RepV G w u x) (hf:unF op x=some v):∃r,(Op.unary op u).run P w = .ok r w/\RepV G w r v:=by
  unfold unF at hf
  split at hf
  · simp only [so_]at hf;subst hf
    rw [hx.d_inv.int_inv]
    exact⟨_,rfl,.d (.int _ _)⟩
  · simp only [so_]at hf;subst hf
    rw [hx.d_inv.bool_inv]
    exact⟨_,rfl,.d (.bool _)⟩
  · cases hf
end
end Go.Eng

/-
  THE ENGINE: comparisons of structs, lengths, slices of slices, slice literals, make.
-/
namespace Go.Eng
set_option linter.unusedSectionVars false
variable [DM]
variable {P:Program}
section
variable {E:Env} {G:Gh} {w:World} {S:Store} {tk:Nat} {U:Nat->Prop} {dst:Option Nat}
theorem yX (n:Nat) (ih:∀(t:TypeId) (x y:D) (u v:Value) (b:Bool) (m:Nat),n<=m->RepD G.imm w u x->RepD G.imm w v y->eqD P n t x y=some b->(Op.equalIn m t u v).run P w = .ok b w)
  (m:Nat) (hm:n<=m) (arr brr:List Value) (xs ys:List D) (hx:RepD G.imm w (.agg arr.toArray) (.agg xs)) (hy:RepD G.imm w (.agg brr.toArray) (.agg ys)) :
  ∀(fs:List Field) (b:Bool),fs.foldr (λf acc =>
    match szT P f.type,acc with
    | some size,some r =>
     match rdD (cO P f.type) size (xs.drop f.offset),rdD (cO P f.type) size (ys.drop f.offset)with
     | some (.d a), some (.d b) => if f.name = "_" then some r else (eqD P n f.type a b).map (· && r)
     | _,_=>Option.none
    | _,_=>Option.none) (some true)=some b->(Op.eqFields m arr.toArray brr.toArray fs).run P w = .ok b w
 | [],b,h=>by
  simp only [List.foldr_nil,so_]at h
  subst h;rfl
 | f::fs,b,h=>by
  simp only [List.foldr_cons]at h
  generalize hacc:(fs.foldr _ (some true))=acc at h
  split at h
  ·rename_i size r hsz
   split at h
   ·rename_i a c ha hc
    have hrest:=yX n ih m hm arr brr xs ys hx hy fs r hacc
    have kx:arr.length=xs.length/\∀i (h1:i<arr.length) (h2:i<xs.length),RepD G.imm w arr[i] xs[i]:=by
     generalize hA:Value.agg arr.toArray=A at hx
     cases hx with
     | agg arr' _ hl hr =>
      simp only [Value.agg.injEq]at hA
      have:arr=arr':=by simpa using congrArg Array.toList hA
      subst this;exact⟨hl,hr⟩
    have ky:brr.length=ys.length/\∀i (h1:i<brr.length) (h2:i<ys.length),RepD G.imm w brr[i] ys[i]:=by
     generalize hA:Value.agg brr.toArray=A at hy
     cases hy with
     | agg arr' _ hl hr =>
      simp only [Value.agg.injEq]at hA
      have:brr=arr':=by simpa using congrArg Array.toList hA
      subst this;exact⟨hl,hr⟩
    obtain ⟨u1,p1,q1⟩:=xQ (G:=G) hsz w arr xs f.offset kx.1 kx.2 ha
    obtain ⟨u2,p2,q2⟩:=xQ (G:=G) hsz w brr ys f.offset ky.1 ky.2 hc
    by_cases hn : f.name = "_"
    ·rw [if_pos hn]at h
     simp only [so_]at h
     subst h
     simp only [Op.eqFields,hn,ne_eq,not_true_eq_false,if_false]
     exact hrest
    ·rw [if_neg hn]at h
     simp only [Option.map_eq_some_iff]at h
     obtain ⟨e,he,rfl⟩:=h
     have h3:=ih f.type a c u1 u2 e m hm q1.d_inv q2.d_inv he
     simp only [Op.eqFields,ne_eq,hn,not_false_eq_true,if_true,Sem.run_bind,p1,p2,Result.andThen_ok,h3]
     cases e
     ·simp
     ·simpa using hrest
   ·cases h
  ·cases h
theorem EZ:∀(n:Nat) (t:TypeId) (x y:D) (u v:Value) (b:Bool) (m:Nat),n<=m->RepD G.imm w u x->RepD G.imm w v y->eqD P n t x y=some b ->
  (Op.equalIn m t u v).run P w = .ok b w
 | 0,_,_,_,_,_,_,_,_,_,_,h=>by simp [eqD]at h
 | n+1,t,x,y,u,v,b,m,hm,hx,hy,h=>by
  obtain ⟨m,rfl⟩:∃m',m=m'+1:=⟨m-1,by omega⟩
  simp only [eqD]at h
  split at h
  ·rename_i a c hu
   simp only [so_]at h;subst h
   rw [hx.bool_inv,hy.bool_inv]
   simp [Op.equalIn,aQ hu]
  ·rename_i k0 k a k' c hu
   split at h
   ·rename_i hk
    subst hk
    simp only [so_]at h;subst h
    rw [hx.int_inv,hy.int_inv]
    simp [Op.equalIn,aQ hu]
   ·cases h
  ·rename_i a c hu
   simp only [so_]at h;subst h
   rw [hx.str_inv,hy.str_inv]
   exact run_equalIn_string w m t a c hu
  ·rename_i fs xs ys hu
   cases hp:P.stoodInHeld t with
   | true=>simp only [hp,cond_true]at h;cases h
   | false =>
    simp only [hp,cond_false]at h
    have hfs:P.fieldsOf t=fs:=by simp [Program.fieldsOf,hu]
    have ih:=EZ n
    cases hx with
    | agg arr _ hl hr =>
     cases hy with
     | agg brr _ hl' hr' =>
      rw [run_equalIn_struct w m t arr.toArray brr.toArray (by rw [hfs];exact hu) hp,hfs]
      exact yX n ih m (by omega) arr brr xs ys (.agg arr xs hl hr) (.agg brr ys hl' hr') fs.toList b h
  ·cases h
theorem ME {op:BinOp} {t:TypeId} {ox oy:Operand} {u u':Value} {x y v:V} (hx:RepV G w u x) (hy:RepV G w u' y) (hf:pI P op t x y=some v) :
  ∃r,(do eqGuard op t ox oy u u';binOp op t u u').run P w = .ok r w/\RepV G w r v:=by
 unfold pI at hf
 split at hf
 ·rename_i xs ys
  cases hg:P.eqGuardType P.depth t with
  | true=>simp only [hg,cond_true]at hf;cases hf
  | false =>
   simp only [hg,cond_false]at hf
   have hx':=hx.d_inv
   have hy':=hy.d_inv
   obtain ⟨arr,rfl⟩:∃arr,u = .agg arr:=by cases hx' with|agg arr _ _ _=>exact⟨_,rfl⟩
   obtain ⟨brr,rfl⟩:∃arr,u' = .agg arr:=by cases hy' with|agg arr _ _ _=>exact⟨_,rfl⟩
   have hg':=run_eqGuard_agg w op t ox oy arr brr hg
   split at hf
   ·simp only [Option.map_eq_some_iff]at hf
    obtain ⟨b,hb,rfl⟩:=hf
    have:=EZ 8 t _ _ _ _ b 10000 (by omega) hx' hy' hb
    exact⟨.bool b,by simp only [Sem.run_bind,hg',Result.andThen_ok,run_eql_struct,this],.d (.bool b)⟩
   ·simp only [Option.map_eq_some_iff]at hf
    obtain ⟨b,hb,rfl⟩:=hf
    have:=EZ 8 t _ _ _ _ b 10000 (by omega) hx' hy' hb
    exact⟨.bool !b,by simp only [Sem.run_bind,hg',Result.andThen_ok,run_neq_struct,this],.d (.bool _)⟩
   ·cases hf
 ·rename_i a b
  rw [hx.d_inv.bool_inv,hy.d_inv.bool_inv]
  have hg:=lu (P:=P) op t ox oy (.bool a) (.bool b) (λ_ _ h=>by cases h.1) (λh=>by cases h.1) w
  split at hf
  ·rename_i hu
   simp only [so_]at hf;subst hf
   exact⟨.bool (a==b),by simp only [Sem.run_bind,hg,Result.andThen_ok];simp [binOp,Op.equal,Op.maxDepth,run_equalIn_bool' w 9999 t a b hu],.d (.bool _)⟩
  ·rename_i hu
   simp only [so_]at hf;subst hf
   exact⟨.bool (!(a==b)),by simp only [Sem.run_bind,hg,Result.andThen_ok];simp [binOp,Op.equal,Op.maxDepth,run_equalIn_bool' w 9999 t a b hu],.d (.bool _)⟩
  ·cases hf
 ·exact binF_ok hx hy hf
theorem qK (w:World) (d:Nat) (t:TypeId) {ms} (h:P.underlying t=some (.interface ms)):(Op.equalIn (d+1) t .nilIface .nilIface).run P w = .ok true w:=by
 simp [Op.equalIn,run_underlying h]
theorem DJ {u:Value} {x:V} {b:Bool} (hx:RepV G w u x) (h:Hy x=some b):∃p,u = .pointer p/\p.isNone=b:=by
 unfold Hy at h
 split at h
 ·simp only [so_]at h;subst h
  cases hx with
  | ref=>exact⟨_,rfl,rfl⟩
 ·simp only [so_]at h;subst h
  cases hx.d_inv with
  | ptr=>exact⟨_,rfl,rfl⟩
 ·simp only [so_]at h;subst h
  cases hx.d_inv with
  | nilp=>exact⟨_,rfl,rfl⟩
 ·cases h
theorem ptrF_ok {op:BinOp} {t:TypeId} {ox oy:Operand} {u u':Value} {x y v:V} (hx:RepV G w u x) (hy:RepV G w u' y) (hf:ptrF P op t x y=some v) :
  ∃r,(do eqGuard op t ox oy u u';binOp op t u u').run P w = .ok r w/\RepV G w r v:=by
 unfold ptrF at hf
 split at hf
 ·rename_i b hb
  obtain ⟨p,rfl,rfl⟩:=DJ hx hb
  obtain ⟨p',rfl,hp'⟩:=DJ hy (b:=true) rfl
  cases p' with
  | some a=>cases hp'
  | none =>
  have hg:=lu (P:=P) op t ox oy (.pointer p) (.pointer none) (λ_ _ h=>by cases h.1) (λh=>by cases h.1) w
  split at hf
  ·rename_i e hu
   have hu':P.underlying t=some (.pointer (P.pointee t)):=by rw [hu];simp only [Program.pointee,hu]
   simp only [so_]at hf;subst hf
   exact⟨_,by simp only [Sem.run_bind,hg,Result.andThen_ok,run_eql_pointer_nil w t p hu'],.d (.bool _)⟩
  ·rename_i e hu
   have hu':P.underlying t=some (.pointer (P.pointee t)):=by rw [hu];simp only [Program.pointee,hu]
   simp only [so_]at hf;subst hf
   exact⟨_,by simp only [Sem.run_bind,hg,Result.andThen_ok,run_neq_pointer_nil w t p hu'],.d (.bool _)⟩
  ·cases hf
 ·cases hf
theorem nilF_ok {op:BinOp} {t:TypeId} {ox oy:Operand} {u u':Value} {x y v:V} (hx:RepV G w u x) (hy:RepV G w u' y) (hf:nilF P op t ox oy x y=some v) :
  ∃r,(do eqGuard op t ox oy u u';binOp op t u u').run P w = .ok r w/\RepV G w r v:=by
 unfold nilF at hf
 split at hf
 ·cases hx
  cases hy
  have hc:(zm ox||zm oy)=true:=by
   cases h:(zm ox||zm oy)with
   | true=>rfl
   | false=>rw [h]at hf;cases hf
  rw [hc,cond_true]at hf
  have hg:(op matches .eql | .neq)=true->(eqGuard op t ox oy .nilIface .nilIface).run P w = .ok () w:=λho=>by
   cases op <;> first | (cases ho;done) | (cases ox <;> cases oy <;> first | rfl | (cases hc;done))
  split at hf
  ·rename_i ms hu _
   simp only [so_]at hf;subst hf
   refine⟨.bool true,?_,.d (.bool _)⟩
   simp only [Sem.run_bind,hg rfl,Result.andThen_ok]
   simp [binOp,Op.equal,Op.maxDepth,qK w 9999 t hu]
  ·rename_i ms hu _
   simp only [so_]at hf;subst hf
   refine⟨.bool false,?_,.d (.bool _)⟩
   simp only [Sem.run_bind,hg rfl,Result.andThen_ok]
   simp [binOp,Op.equal,Op.maxDepth,qK w 9999 t hu]
  ·cases hf
 ·exact ptrF_ok hx hy hf
theorem Mx {op:BinOp} {t:TypeId} {ox oy:Operand} {u u':Value} {x y v:V} (hx:RepV G w u x) (hy:RepV G w u' y) (hf:y9 P op t ox oy x y=some v) :
  ∃r,(do eqGuard op t ox oy u u';binOp op t u u').run P w = .ok r w/\RepV G w r v:=by
 unfold y9 at hf
 split at hf
 ·rename_i v' hv
  simp only [so_]at hf;subst hf
  exact ME hx hy hv
 ·exact nilF_ok hx hy hf
theorem J5 {t:TypeId} {u u':Value} {x i v:V} (hx:RepV G w u x) (hi:RepV G w u' i) (hf:yg P t x i=some v) :
  ∃r,(Instr.index t u u').run P w = .ok r w/\RepV G w r v:=by
 unfold yg at hf
 split at hf
 ·rename_i s k n hu
  rw [hx.d_inv.str_inv,hi.d_inv.int_inv]
  cases hn:decide (0<=n)with
  | false=>simp only [hn,cond_false]at hf;cases hf
  | true =>
   have hn':=of_decide_eq_true hn
   simp only [hn,cond_true,Option.map_eq_some_iff]at hf
   obtain ⟨b,hb,rfl⟩:=hf
   exact⟨_,by simp only [Instr.index,asIntOf,Sem.run_bind,Sem.run_pure,Result.andThen_ok,aQ hu,hn',if_true,hb],.d (.int _ _)⟩
 ·rename_i n e ds k m hu
  split at hf
  ·rename_i size hsz
   cases hc:(decide (0<=m)&&Nat.blt m.toNat n)with
   | false=>simp only [hc,cond_false]at hf;cases hf
   | true =>
    simp only [hc,cond_true]at hf
    simp only [Bool.and_eq_true,decide_eq_true_eq,Nat.blt_eq]at hc
    rw [hi.d_inv.int_inv]
    cases hx.d_inv with
    | agg arr _ hl hr =>
     obtain ⟨r,h1,h2⟩:=xQ hsz w arr ds (m.toNat*size) hl hr hf
     obtain ⟨inf,d,i1,i2,_⟩:=qY hsz
     have hs':(sizeOf e).run P w = .ok size w:=by simp [sizeOf,typeInfo,i1,i2]
     refine⟨r,?_,h2⟩
     simp only [Instr.index,asIntOf,Sem.run_bind,Sem.run_pure,Result.andThen_ok,aQ hu]
     rw [if_pos ⟨hc.1,by omega⟩]
     simp only [Sem.run_bind,hs',Result.andThen_ok]
     exact h1
  ·cases hf
 ·cases hf
theorem Gx {u:Value} {x v:V} {i:Nat} (hx:RepV G w u x) (hf:w9 x i=some v):∃r,(Instr.extract u i).run P w = .ok r w/\RepV G w r v:=by
 unfold w9 at hf
 split at hf
 ·rename_i vs
  obtain ⟨h1,rfl⟩:=List.getElem?_eq_some_iff.1 hf
  cases hx with
  | tup arr _ hl hr=>exact⟨arr[i],by simp [Instr.extract,show i<arr.length by omega],hr i (by omega) h1⟩
 ·cases hf
theorem Ew {u:Value} {x v:V} (hx:RepV G w u x) (hf:vg x=some v) (o:Oper) (ox:Operand) (ρ:Operand->Value) (ho:o.op = .nilCheck ox) (hρ:ρ ox=u) :
  (execOp ρ o).run P w = .ok (.value u) w/\RepV G w u v:=by
 unfold vg at hf
 split at hf
 ·simp only [so_]at hf;subst hf
  obtain ⟨b,o',sz,h1,rfl⟩:=hx.ref_inv
  exact⟨by simp [execOp,ho,hρ],hx⟩
 ·simp only [so_]at hf;subst hf
  refine⟨?_,hx⟩
  cases hx.d_inv with
  | ptr=>simp [execOp,ho,hρ]
 ·simp only [so_]at hf;subst hf
  refine⟨?_,hx⟩
  cases hx with
  | fn=>simp [execOp,ho,hρ]
  | fnb=>simp [execOp,ho,hρ]
 ·cases hf
theorem Mm {s t:TypeId} {u:Value} {x v:V} (hx:RepV G w u x) (hf:yY P s t x=some v):∃r,(convert s t u).run P w = .ok r w/\RepV G w r v:=by
 unfold yY at hf
 split at hf
 ·rename_i d k k' n hs ht
  simp only [so_]at hf;subst hf
  rw [hx.d_inv.int_inv]
  refine⟨.int k (k.wrap n),?_,.d (.int _ _)⟩
  simp only [convert,Sem.run_bind,aQ hs,aQ ht,Result.andThen_ok]
  cases d <;> rfl
 ·rename_i d s' hs ht
  simp only [so_]at hf;subst hf
  rw [hx.d_inv.str_inv]
  refine⟨.string s',?_,.d (.str _)⟩
  simp only [convert,Sem.run_bind,aQ hs,aQ ht,Result.andThen_ok]
  cases d <;> rfl
 ·rename_i d k' n hs ht
  simp only [so_]at hf;subst hf
  rw [hx.d_inv.int_inv]
  refine⟨.string (Utf8.encode n),?_,.d (.str _)⟩
  simp only [convert,Sem.run_bind,aQ hs,aQ ht,Result.andThen_ok]
  rfl
 ·cases hf
theorem lenF_ok {t ty:TypeId} {u:Value} {x v:V} (hx:RepV G w u x) (hf:Bv P t x=some v):∃r,(Builtin.len_ #[t] ty #[u]).run P w = .ok r w/\RepV G w r v:=by
 unfold Bv at hf
 split at hf
 ·rename_i s hu
  simp only [so_]at hf;subst hf
  rw [hx.d_inv.str_inv]
  exact⟨.int .i64 s.size,by simp [Builtin.len_,aQ hu,goInt],.d (.int _ _)⟩
 ·rename_i e xs hu
  simp only [so_]at hf;subst hf
  rcases hx.d_inv.sl_len with⟨a,cap,⟨rfl,_⟩|⟨a',cap',rfl,rfl⟩⟩
  ·exact⟨.int .i64 xs.length,by simp [Builtin.len_,aQ hu,goInt],.d (.int _ _)⟩
  ·exact⟨.int .i64 0,by simp [Builtin.len_,aQ hu,goInt],.d (.int _ _)⟩
 ·rename_i e hu
  simp only [so_]at hf;subst hf
  cases hx with
  | nil a=>exact⟨.int .i64 0,by simp [Builtin.len_,aQ hu,goInt],.d (.int _ _)⟩
 ·rename_i e n sz k len hu
  simp only [so_]at hf;subst hf
  cases hx with
  | vs0=>exact⟨.int .i64 0,by simp [Builtin.len_,aQ hu,goInt],.d (.int _ _)⟩
  | vs=>exact⟨.int .i64 len,by simp [Builtin.len_,aQ hu,goInt],.d (.int _ _)⟩
 ·rename_i e sz len hu
  simp only [so_]at hf;subst hf
  cases hx.d_inv with
  | wild0=>exact⟨.int .i64 0,by simp [Builtin.len_,aQ hu,goInt],.d (.int _ _)⟩
  | wild=>exact⟨.int .i64 len,by simp [Builtin.len_,aQ hu,goInt],.d (.int _ _)⟩
 ·cases hf
theorem DV {y:Nat} {n:Int} {k:IntKind} (h0:0<=n) (h1:n<=y) (code:BoundsCode) (w:World):(Instr.sliceBound (.int k n) y code).run P w = .ok n.toNat w:=by
 simp [Instr.sliceBound,asIntOf,h0,h1]
def tO (G:Gh) (w:World):Option Value->Option V->Prop
 | none,none=>True
 | some u,some v=>RepV G w u v
 | _,_=>False
theorem yC {d l:Nat} {u:Option Value} {v:Option V} (h:tO G w u v) (hf:qd d v=some l) :
  (u=none/\v=none/\l=d)\/∃k n,u=some (.int k n)/\0<=n/\l=n.toNat:=by
 unfold qd at hf
 split at hf
 ·simp only [so_]at hf
  cases u with
  | none=>exact .inl ⟨rfl,rfl,hf.symm⟩
  | some u=>exact h.elim
 ·rename_i k n
  cases u with
  | none=>exact h.elim
  | some u =>
   have:=RepV.d_inv h |>.int_inv
   subst this
   cases hn:decide (0<=n)with
   | false=>simp only [hn,cond_false]at hf;cases hf
   | true =>
    simp only [hn,cond_true,so_]at hf
    exact .inr ⟨k,n,rfl,of_decide_eq_true hn,hf.symm⟩
 ·cases hf
theorem lN {isSlice:Bool} {len cap l h:Nat} {lo hi:Option Value} {vlo vhi:Option V} (rl:tO G w lo vlo) (rh:tO G w hi vhi)
  (hl:qd 0 vlo=some l) (hh:qd len vhi=some h) (hlh:l<=h) (hhc:h<=cap) (_hlen:len<=cap) :
  (Instr.sliceBounds isSlice len cap lo hi none).run P w = .ok (l,h,cap) w:=by
 unfold Instr.sliceBounds
 rcases yC rh hh with⟨rfl,_,rfl⟩|⟨k,n,rfl,h0,rfl⟩
 ·rcases yC rl hl with⟨rfl,_,rfl⟩|⟨k',n',rfl,h0',rfl⟩
  ·simp
  ·have e':=DV (P:=P) (k:=k') h0' (show n'<=(h:Int) by omega)
   simp [e']
 ·have e:=DV (P:=P) (k:=k) h0 (show n<=(cap:Int) by omega)
  rcases yC rl hl with⟨rfl,_,rfl⟩|⟨k',n',rfl,h0',rfl⟩
  ·simp [e]
  ·have e':=DV (P:=P) (k:=k') h0' (show n'<=(n.toNat:Int) by omega)
   simp [e,e']
end
end Go.Eng

/-
  THE ENGINE: slices of slices, make, slice literals, append.
-/
namespace Go.Eng
set_option linter.unusedSectionVars false
variable [DM]
variable {P:Program}
section
variable {E:Env} {G:Gh} {w:World} {S:Store} {tk:Nat} {U:Nat->Prop} {dst:Option Nat}
theorem zJ {u:Option Value} {v:Option V} (h:tO G w u v) (h0:is0 v=true):∃k,u=some (.int k 0):=by
 unfold is0 at h0
 split at h0
 ·rename_i k n
  have hn:=of_decide_eq_true h0
  subst hn
  cases u with
  | none=>exact h.elim
  | some u=>exact⟨k,by rw [(RepV.d_inv h).int_inv]⟩
 ·cases h0
theorem Hu {lo hi mx:Option Value} {vlo vhi vmx:Option V} (rl:tO G w lo vlo) (rh:tO G w hi vhi) (rm:tO G w mx vmx) (h:uD vlo vhi vmx=true)
  (isSlice:Bool) (len cap:Nat):(Instr.sliceBounds isSlice len cap lo hi mx).run P w = .ok (0,0,0) w:=by
 simp only [uD,Bool.and_eq_true]at h
 obtain ⟨h1,h2,h3⟩:=h
 obtain ⟨k,rfl⟩:=zJ rh h2
 obtain ⟨k',rfl⟩:=zJ rm h3
 have e:∀(k:IntKind) (y:Nat) code,(Instr.sliceBound (.int k 0) y code).run P w = .ok 0 w:=λk y code=>by
  simp [Instr.sliceBound,asIntOf]
 cases vlo with
 | none =>
  cases lo with
  | none=>simp [Instr.sliceBounds,e]
  | some u=>exact rl.elim
 | some v =>
  obtain ⟨k'',rfl⟩:=zJ rl h1
  simp [Instr.sliceBounds,e]
theorem IY {u:Option Value} {v:Option V} {n:Nat} (h:tO G w u v) (h0:isN v n=true):∃k,u=some (.int k (n:Int)):=by
 unfold isN at h0
 split at h0
 ·rename_i k m
  have hn:=of_decide_eq_true h0
  subst hn
  cases u with
  | none=>exact h.elim
  | some u=>exact⟨k,by rw [(RepV.d_inv h).int_inv]⟩
 ·cases h0
theorem Dv {lo hi mx:Option Value} {vlo vhi vmx:Option V} {n:Nat} (rl:tO G w lo vlo) (rh:tO G w hi vhi) (rm:tO G w mx vmx) (h:Jn vlo vhi vmx n=true)
  (isSlice:Bool) (len cap:Nat) (hc:n<=cap):(Instr.sliceBounds isSlice len cap lo hi mx).run P w = .ok (0,n,n) w:=by
 simp only [Jn,Bool.and_eq_true]at h
 obtain ⟨h1,h2,h3⟩:=h
 obtain ⟨k,rfl⟩:=IY rh h2
 obtain ⟨k',rfl⟩:=IY rm h3
 have e:∀(k:IntKind) (y:Nat) code,n<=y->(Instr.sliceBound (.int k (n:Int)) y code).run P w = .ok n w:=λk y code hy=>by
  simp [Instr.sliceBound,asIntOf];omega
 have e0:∀(k:IntKind) (y:Nat) code,(Instr.sliceBound (.int k 0) y code).run P w = .ok 0 w:=λk y code=>by
  simp [Instr.sliceBound,asIntOf]
 cases vlo with
 | none =>
  cases lo with
  | none=>simp [Instr.sliceBounds,e _ _ _ hc,e _ _ _ (Nat.le_refl n)]
  | some u=>exact rl.elim
 | some v =>
  obtain ⟨k'',rfl⟩:=zJ rl h1
  simp [Instr.sliceBounds,e _ _ _ hc,e _ _ _ (Nat.le_refl n),e0]
theorem lh {t e:TypeId} (hu:P.underlying t=some (.slice e)) (u:Value) (lo hi mx:Option Value) (w:World):(Instr.sliceAt t u lo hi mx).run P w=(Instr.slice t u lo hi mx).run P w:=by
 simp only [Instr.sliceAt,Sem.run_bind,aQ hu,Result.andThen_ok]
theorem Kw {t:TypeId} {u:Value} {x v:V} {lo hi mx:Option Value} {vlo vhi vmx:Option V} (hx:RepV G w u x) (rl:tO G w lo vlo) (rh:tO G w hi vhi) (rm:tO G w mx vmx)
  (hf:ou P t x vlo vhi vmx=some v):∃r,(Instr.sliceAt t u lo hi mx).run P w = .ok r w/\RepV G w r v:=by
 unfold ou at hf
 split at hf
 ·have hm:mx=none:=by
   cases mx with
   | none=>rfl
   | some _=>exact rm.elim
  subst hm
  split at hf
  ·rename_i s hu
   split at hf
   ·rename_i l h hl hh
    split at hf
    ·rename_i hc
     simp only [so_]at hf;subst hf
     rw [hx.d_inv.str_inv]
     have hb:=lN (P:=P) (isSlice:=false) rl rh hl hh hc.1 hc.2 (Nat.le_refl _)
     refine⟨.string (s.extract l h),?_,.d (.str _)⟩
     simp only [Instr.sliceAt,Sem.run_bind,aQ hu,Result.andThen_ok,Instr.slice]
     simp only [Option.isSome_none,Bool.false_eq_true,if_false,Sem.run_bind,Sem.run_pure,Result.andThen_ok,hb]
    ·cases hf
   ·cases hf
  ·rename_i e xs hu
   split at hf
   ·rename_i size l h hsz hl hh
    split at hf
    ·rename_i hc
     simp only [so_]at hf;subst hf
     rw [lh hu]
     have hlen:((xs.take h).drop l).length=h-l:=by simp;omega
     have hall:∀i (hi:i<xs.length),xs[i].length=size:=λi hi=>Nat.eq_of_beq_eq_true (List.all_eq_true.1 hc.2.2 _ (List.getElem_mem hi))
     cases hx.d_inv with
     | sl0 a cap =>
      have hh0:h=0:=by simpa using hc.2.1
      have hl0:l=0:=by omega
      subst hh0 hl0
      have hb:=lN (P:=P) (isSlice:=true) (len:=0) (cap:=cap) rl rh hl hh (Nat.le_refl _) (Nat.zero_le _) (Nat.zero_le _)
      exact⟨_,by simp only [Instr.slice,Sem.run_bind,aQ hu,Result.andThen_ok,hb,run_sizeOf hsz,Sem.run_pure];rfl,.d (.sl0 _ _)⟩
     | sl b off cap sz _ us hcap hs hI hcell hone hr =>
      have hb:=lN (P:=P) (isSlice:=true) (len:=xs.length) (cap:=cap) rl rh hl hh hc.1 (by omega) hcap
      refine⟨.slice (if cap=l then some ⟨b,off,none⟩else some ⟨b,off+l*size,none⟩) (h-l) (cap-l),?_,.d ?_⟩
      ·simp only [Instr.slice,Sem.run_bind,aQ hu,Result.andThen_ok,hb,run_sizeOf hsz,Sem.run_pure,Option.map_some,addr_add]
      ·by_cases hz:h-l=0
       ·have e0:(xs.take h).drop l=[]:=by rw [<- List.length_eq_zero_iff,hlen];exact hz
        rw [e0,hz]
        exact .sl0 _ _
       ·rw [if_neg (by omega),<- hlen]
        have hszz:sz=size:=by rw [<- hs 0 (by omega),hall 0 (by omega)]
        subst hszz
        refine .sl b (off+l*sz) (cap-l) sz _ (λi j=>us (l+i) j) (by rw [hlen];omega) (λi hi => ?_) (λi j hi hj => ?_) (λi j hi hj => ?_) (λi j hi hj=>hone _ j (by rw [hlen]at hi;omega) hj) (λi j hi hj => ?_)
        ·rw [List.getElem_drop,List.getElem_take];exact hall _ (by rw [hlen]at hi;omega)
        ·rw [hlen]at hi
         have:=hI (l+i) j (by omega) hj
         rwa [Nat.add_mul,<- Nat.add_assoc]at this
        ·rw [hlen]at hi
         have:=hcell (l+i) j (by omega) hj
         rwa [Nat.add_mul,<- Nat.add_assoc]at this
        ·rw [hlen]at hi
         simp only [List.getElem_drop,List.getElem_take]at hj ⊢
         exact hr (l+i) j (by omega) hj
    ·cases hf
   ·cases hf
  ·rename_i e n sz k len hu
   split at hf
   ·rename_i size l h hsz hl hh
    split at hf
    ·rename_i hc
     simp only [so_]at hf;subst hf
     obtain ⟨hc1,hc2,rfl⟩:=hc
     rw [lh hu]
     cases hx with
     | vs0 _ _ _ a =>
      have hh0:h=0:=by omega
      have hl0:l=0:=by omega
      subst hh0 hl0
      have hb:=lN (P:=P) (isSlice:=true) (len:=0) (cap:=0) rl rh hl hh (Nat.le_refl _) (Nat.le_refl _) (Nat.le_refl _)
      exact⟨_,by simp only [Instr.slice,Sem.run_bind,aQ hu,Result.andThen_ok,hb,run_sizeOf hsz,Sem.run_pure];rfl,.vs0 _ _ _ _⟩
     | vs _ _ cap hmu hcap hbd =>
      rename_i b o
      have hb:=lN (P:=P) (isSlice:=true) (len:=len) (cap:=cap) rl rh hl hh hc1 (by omega) hcap
      refine⟨.slice (if cap=l then some ⟨b,o+k*size,none⟩else some ⟨b,o+k*size+l*size,none⟩) (h-l) (cap-l),?_,?_⟩
      ·simp only [Instr.slice,Sem.run_bind,aQ hu,Result.andThen_ok,hb,run_sizeOf hsz,Sem.run_pure,Option.map_some,addr_add]
      ·by_cases hz:cap=l
       ·rw [if_pos hz]
        have e1:h-l=0:=by omega
        have e2:cap-l=0:=by omega
        rw [e1,e2]
        exact .vs0 _ _ _ _
       ·rw [if_neg hz,Nat.add_assoc,<- Nat.add_mul]
        exact .vs (k+l) (h-l) (cap-l) hmu (by omega) (by rw [show k+l+(cap-l)=k+cap by omega];exact hbd)
    ·cases hf
   ·cases hf
  ·rename_i e hu
   split at hf
   ·rename_i size l h hsz hl hh
    split at hf
    ·rename_i hc
     simp only [so_]at hf;subst hf
     obtain ⟨rfl,rfl⟩:=hc
     rw [lh hu]
     cases hx with
     | nil a =>
      have hb:=lN (P:=P) (isSlice:=true) (len:=0) (cap:=0) rl rh hl hh (Nat.le_refl _) (Nat.le_refl _) (Nat.le_refl _)
      exact⟨_,by simp only [Instr.slice,Sem.run_bind,aQ hu,Result.andThen_ok,hb,run_sizeOf hsz,Sem.run_pure];rfl,.nil _⟩
    ·cases hf
   ·cases hf
  ·cases hf
 ·rename_i vm
  have done:∀{e:TypeId} {a:Option Addr} {len cap:Nat},P.underlying t=some (.slice e)->(∃s,szT P e=some s)->u = .slice a len cap->uD vlo vhi (some vm)=true ->
    ∃r,(Instr.sliceAt t u lo hi mx).run P w = .ok r w/\RepV G w r .nil:=by
   rintro e a len cap hu ⟨s,hs⟩ rfl h3
   rw [lh hu]
   have hb:=Hu (P:=P) rl rh rm h3 true len cap
   exact⟨_,by simp only [Instr.slice,Sem.run_bind,aQ hu,Result.andThen_ok,hb,run_sizeOf hs,Sem.run_pure];rfl,.nil _⟩
  have shape:∀{e:TypeId},P.underlying t=some (.slice e)->(∃a len cap,u = .slice a len cap)->(match szT P e with
   | some _=>bif uD vlo vhi (some vm)then some V.nil else Option.none
   | Option.none=>Option.none)=some v->∃r,(Instr.sliceAt t u lo hi mx).run P w = .ok r w/\RepV G w r v:=by
   rintro e hu ⟨a,len,cap,rfl⟩ h3
   split at h3
   ·rename_i s hs
    cases h4:uD vlo vhi (some vm)with
    | true =>
     simp only [h4,cond_true,so_]at h3
     subst h3
     exact done hu ⟨s,hs⟩ rfl h4
    | false=>simp only [h4,cond_false]at h3;cases h3
   ·cases h3
  split at hf
  ·rename_i e xs hu
   split at hf
   ·rename_i s hs
    cases h4:uD vlo vhi (some vm)with
    | true =>
     rw [h4,cond_true,so_]at hf
     subst hf
     cases hx.d_inv with
     | sl0 a cap=>exact done hu ⟨s,hs⟩ rfl h4
     | sl=>exact done hu ⟨s,hs⟩ rfl h4
    | false =>
     rw [h4,cond_false]at hf
     cases h5:Jn vlo vhi (some vm) xs.length with
     | false=>rw [h5]at hf;cases hf
     | true =>
      rw [h5,cond_true,so_]at hf
      subst hf
      rw [lh hu]
      cases hx.d_inv with
      | sl0 a cap =>
       have hb:=Dv (P:=P) rl rh rm h5 true 0 cap (Nat.zero_le _)
       exact⟨_,by simp only [Instr.slice,Sem.run_bind,aQ hu,Result.andThen_ok,hb,run_sizeOf hs,Sem.run_pure];rfl,.d (.sl0 _ _)⟩
      | sl b off cap sz _ us hcap hs' hI hcell hone hr =>
       have hb:=Dv (P:=P) rl rh rm h5 true xs.length cap hcap
       refine⟨.slice (some ⟨b,off,none⟩) xs.length xs.length,?_,.d (.sl b off xs.length sz _ us (Nat.le_refl _) hs' hI hcell hone hr)⟩
       simp only [Instr.slice,Sem.run_bind,aQ hu,Result.andThen_ok,hb,run_sizeOf hs,Sem.run_pure,Option.map_some,addr_add,Nat.zero_mul,Nat.add_zero,Nat.sub_zero,ite_self]
   ·cases hf
  ·rename_i e n sz k len hu
   refine shape hu ?_ hf
   cases hx with
   | vs0=>exact⟨_,_,_,rfl⟩
   | vs=>exact⟨_,_,_,rfl⟩
  ·rename_i e hu
   refine shape hu ?_ hf
   cases hx with
   | nil a=>exact⟨_,_,_,rfl⟩
  ·cases hf
end
end Go.Eng

/-
  THE ENGINE: new rows of elements: make, slice literals, append.
-/
namespace Go.Eng
set_option linter.unusedSectionVars false
variable [DM]
variable {P:Program}
section
variable {E:Env} {G:Gh} {w:World} {S:Store} {tk:Nat} {U:Nat->Prop} {dst:Option Nat}
theorem all_vec (sz:Nat) (xs:List (List D)):(Box.vec sz xs).all=(xs.map λx=>x.map V.d).flatten:=rfl
theorem FE {xs:List (List D)} {sz:Nat} (h:∀x∈xs,x.length=sz):∀x∈xs.map (λx=>x.map V.d),x.length=sz:=by
  intro x hx
  obtain ⟨y,hy,rfl⟩:=List.mem_map.1 hx
  rw [List.length_map];exact h y hy
theorem wX {xs:List (List D)} {sz:Nat} (h:∀x∈xs,x.length=sz):(Box.vec sz xs).all.length=xs.length*sz:=by
  rw [all_vec,nO sz _ (FE h)];simp
theorem BM {xs:List (List D)} {sz:Nat} (h:∀x∈xs,x.length=sz) (k:Nat) (hk:k<(Box.vec sz xs).all.length) :
    ∃(hi:k / sz<xs.length) (hj:k % sz<xs[k / sz].length),(Box.vec sz xs).all[k] = .d xs[k / sz][k % sz]:=by
  have hlen:=wX h
  have hk':k<xs.length*sz:=hlen ▸ hk
  have hz:0<sz:=by
    rcases Nat.eq_zero_or_pos sz with h0|h0
    · subst h0;simp at hk'
    · exact h0
  have hi:k / sz<xs.length:=(Nat.div_lt_iff_lt_mul hz).2 hk'
  have hl:xs[k / sz].length=sz:=h _ (List.getElem_mem hi)
  have hj:k % sz<xs[k / sz].length:=by rw [hl];exact Nat.mod_lt _ hz
  refine⟨hi,hj,?_⟩
  obtain ⟨h1,h2⟩:=flat_get sz _ (FE h) (k / sz) (k % sz) (by simpa using hi) (by simpa using hj)
  have e:k / sz*sz+k % sz=k:=Nat.div_add_mod' k sz
  have:(Box.vec sz xs).all[k]? = some (.d xs[k / sz][k % sz]):=by
    have h3:((xs.map λx=>x.map V.d).flatten)[k / sz*sz+k % sz]? = some (.d xs[k / sz][k % sz]):=by
      rw [List.getElem?_eq_getElem h1,h2];simp
    rw [e]at h3
    exact h3
  rw [List.getElem?_eq_getElem hk]at this
  exact Option.some.inj this
theorem Ak {G':Gh} {w':World} {b o sz:Nat} {arr:Array Value} {elem:TypeId} {xs:List (List D)} (hb:w'.heap[b]? = some (.cells arr elem (0,0)))
    (hev:∀x∈xs,x.length=sz) (hroom:o+xs.length*sz<=arr.size) (hfree:∀o',¬G'.imm b o')
    (hr:∀i j (hi:i<xs.length) (hj:j<xs[i].length),∃u,arr[o+(i*sz+j)]? = some u/\u.oneCell'=true/\RepD G'.imm w' u xs[i][j]):Stands G' w' (.vec sz xs) b o sz where
  sz:=rfl
  even:=hev
  room:=by rw [wX hev,aZ hb];exact hroom
  cell k hk:=by
    obtain ⟨hi,hj,e⟩:=BM hev k hk
    obtain ⟨u,h1,ho,h2⟩:=hr _ _ hi hj
    rw [Nat.div_add_mod']at h1
    exact⟨u,by rw [cell_of_row hb];exact h1,ho,by rw [e];exact .d h2⟩
  free _:=⟨⟨arr,elem,hb⟩,hfree⟩
  froz hx:=by simp [Box.mut]at hx
theorem oU (h:Inv E G w S tk U) {dst:Nat} (hd:¬U dst) (elem:TypeId) (arr:Array Value) {sz:Nat} {xs:List (List D)} (hev:∀x∈xs,x.length=sz)
    (hroom:xs.length*sz<=arr.size) (hr:∀i j (hi:i<xs.length) (hj:j<xs[i].length),∃u,arr[i*sz+j]? = some u/\u.oneCell'=true/\RepD G.imm w u xs[i][j]) :
    Inv E ⟨G.imm,λm=>if m=(dst,tk)then some (w.heap.size,0,sz)else G.mu m⟩ (w.alloc (.cells arr elem)) (supd S (dst,tk) (some (.vec sz xs))) tk (λu=>U u\/u=dst) /\
    Ext G w ⟨G.imm,λm=>if m=(dst,tk)then some (w.heap.size,0,sz)else G.mu m⟩ (w.alloc (.cells arr elem)) :=
  h.allocBox dst hd (.cells arr elem) (.vec sz xs) (λG' hG' e=>by
    have hs:Stands G' (w.alloc (.cells arr elem)) (.vec sz xs) w.heap.size 0 sz :=
      Ak (fI w _) hev (by simpa using hroom) (λo' ho'=>Nat.lt_irrefl _ (h.immB _ _ ((hG' _ _).1 ho')))
        (λi j hi hj=>by
          obtain ⟨u,h1,ho,h2⟩:=hr i j hi hj
          exact⟨u,by simpa using h1,ho,h2.ext e.imm e.cell e.still e.sizeI⟩)
    exact hs)
theorem Inv.drew (h:Inv E G w S tk U):Inv E G w.drew S tk U/\Ext G w G w.drew :=
  h.more (λ_ _=>rfl) (Nat.le_refl _) rfl rfl rfl (λ_ _ h=>h) (λ_ _ h => .inl h) rfl (λ_ h=>h)
theorem dC.of {s:Sem Value} {u:Value} {w':World} {G':Gh} {A:Eff} (hrun:s.run P w = .ok u w') (e:Ext G w G' w')
    (hi:Inv E G' w' (dn S A.upd) tk (λn=>U n\/dst=some (n % 100000))) (hr:RepV G' w' u A.val):dC P E (do pure (.value (<- s))) dst G w S tk U A :=
  ⟨.value u,u,w',G',by simp only [Sem.run_bind,hrun,Result.andThen_ok,Sem.run_pure],.inl rfl,e,hi,hr⟩
theorem F6 (z:Array Value) (n i:Nat) (h:i<n):((Array.range n).map (λk=>z[k % z.size]!))[i]? = some (z[i % z.size]!):=by
  simp [h]
theorem Ap (G:Gh) (w:World) {l:List Value} {ds:List D} (h:Ce (l.map mZ)=some ds):l.length=ds.length/\∀i (h1:i<l.length) (h2:i<ds.length),RepD G.imm w l[i] ds[i]:=by
  have e:=yA h
  have hl:l.length=ds.length:=by have:=congrArg List.length e;simpa using this
  refine⟨hl,λi h1 h2 => ?_⟩
  have e1:(l.map mZ)[i]? = (ds.map V.d)[i]? := by rw [e]
  rw [List.getElem?_map,List.getElem?_map,List.getElem?_eq_getElem h1,List.getElem?_eq_getElem h2]at e1
  have e2:mZ l[i] = .d ds[i]:=Option.some.inj e1
  have:=kw G w l[i]
  rw [e2]at this
  exact this.d_inv
theorem wrap_small {n:Int} (h0:0<=n) (h1:n<=2 ^ 48):IntKind.i64.wrap n=n:=by
  have e:n % (18446744073709551616:Int)=n:=Int.emod_eq_of_lt h0 (by omega)
  have e2:¬((9223372036854775808:Int)<=n):=by omega
  simp [IntKind.wrap,IntKind.bits,IntKind.signed,e,e2]
theorem qg {e:TypeId} {size:Nat} (h:szT P e=some size):∃i,P.info? e=some i/\i.bytes=bytesT P e/\i.size=size:=by
  obtain ⟨i,d,h1,h2,_⟩:=qY h
  exact⟨i,h1,by simp [bytesT,h1],h2⟩
theorem iH {e:TypeId} {z:List V} (h:zeroCells P e=some z):∃zv,(P.info? e).bind (·.zero)=some zv/\z=zv.cells.toList.map mZ:=by
  simp only [zeroCells,Option.map_eq_some_iff]at h
  obtain ⟨zv,h1,rfl⟩:=h
  exact⟨zv,h1,rfl⟩
theorem run_makeSlice {t e:TypeId} (hu:P.underlying t=some (.slice e)) {size:Nat} (hsz:szT P e=some size) {zv:Value} (hz:(P.info? e).bind (·.zero)=some zv)
    {k k':IntKind} {n:Int} (h0:0<=n) (h1:n*bytesT P e<=2 ^ 48) (h2:n<=2 ^ 48) (hn:0<size) (w:World) :
    ∃arr:Array Value,(Instr.makeSlice t (.int k n) (.int k' n)).run P w = .ok (.slice (some ⟨w.heap.size,0,none⟩) n.toNat n.toNat) (w.alloc (.cells arr e)) /\
      arr=(Array.range (n.toNat*size)).map (λi=>zv.cells[i % zv.cells.size]!):=by
  obtain ⟨i,i1,i2,i3⟩:=qg hsz
  refine⟨_,?_,rfl⟩
  have hw:=wrap_small h0 h2
  have hb:¬((281474976710656:Int)<(i.bytes:Int)*n):=by rw [i2,Int.mul_comm];omega
  have hnn:¬n<0:=by omega
  by_cases hnz:n.toNat*size=0
  · have hn0:n.toNat=0:=by
      rcases Nat.mul_eq_zero.1 hnz with h|h
      · exact h
      · omega
    simp [Instr.makeSlice,aQ hu,asInt,asIntOf,typeInfo,i1,hw,hb,hnn,run_sizeOf hsz,hn0,kL,show Array.range 0 = #[] from rfl]
  · simp [Instr.makeSlice,aQ hu,asInt,asIntOf,typeInfo,i1,hw,hb,hnn,run_sizeOf hsz,hnz,jK hz,kL]
theorem AY {t e:TypeId} (hu:P.underlying t=some (.slice e)) {size:Nat} (hsz:szT P e=some size) {zv:Value} (hz:(P.info? e).bind (·.zero)=some zv)
    {k k':IntKind} {n:Int} (h0:0<=n) (h1:n*bytesT P e<=2 ^ 48) (h2:n<=2 ^ 48) (hn:0<size) (w:World) :
    ∃arr:Array Value,(Instr.makeSlice t (.int k 0) (.int k' n)).run P w = .ok (.slice (some ⟨w.heap.size,0,none⟩) 0 n.toNat) (w.alloc (.cells arr e))/\arr.size=n.toNat*size:=by
  obtain ⟨i,i1,i2,i3⟩:=qg hsz
  have hw:=wrap_small h0 h2
  have hw0:IntKind.i64.wrap 0=0:=wrap_small (by omega) (by omega)
  have hb:¬((281474976710656:Int)<(i.bytes:Int)*n):=by rw [i2,Int.mul_comm];omega
  have hnn:¬n<0:=by omega
  refine⟨(Array.range (n.toNat*size)).map (λi=>zv.cells[i % zv.cells.size]!),?_,by simp⟩
  by_cases hnz:n.toNat*size=0
  · have hn0:n.toNat=0:=by
      rcases Nat.mul_eq_zero.1 hnz with h|h
      · exact h
      · omega
    simp [Instr.makeSlice,aQ hu,asInt,asIntOf,typeInfo,i1,hw,hw0,hb,hnn,run_sizeOf hsz,hn0,kL,show Array.range 0 = #[] from rfl]
  · simp [Instr.makeSlice,aQ hu,asInt,asIntOf,typeInfo,i1,hw,hw0,hb,hnn,run_sizeOf hsz,hnz,jK hz,kL]
theorem Ch (h:Inv E G w S tk U) {d:Nat} (hdl:d<100000) (hd:¬U d) {t:TypeId} {u u':Value} {l c:V} {A:Eff} (hl:RepV G w u l) (hc:RepV G w u' c) (hf:pK P t l c d tk=some A) :
    dC P E (do pure (.value (<- Instr.makeSlice t u u'))) (some d) G w S tk U A:=by
  unfold pK at hf
  split at hf
  · rename_i e k n k' m he
    have hu:=iE he
    rw [hl.d_inv.int_inv,hc.d_inv.int_inv]
    split at hf
    · rename_i size z hsz hz
      split at hf
      · rename_i hcond
        obtain ⟨rfl,h0,h1,h2,hzl,hpos⟩:=hcond
        obtain ⟨zv,hzv,rfl⟩:=iH hz
        obtain ⟨arr,hrun,harrs⟩:=AY (P:=P) (k:=k) (k':=k') hu hsz hzv h0 h1 h2 hpos w
        simp only [so_]at hf;subst hf
        obtain ⟨a1,a2⟩:=oU h hd e arr (sz:=size) (xs:=[]) (λx hx=>by cases hx) (by simp) (λi j hi hj=>absurd hi (by simp))
        refine dC.of hrun a2 (a1.mono (λn hn=>hn.imp id (λe=>by rw [e,Nat.mod_eq_of_lt hdl]))) ?_
        have:(⟨w.heap.size,0,none⟩:Addr)=⟨w.heap.size,0+0*size,none⟩:=by simp
        rw [this]
        exact .vs 0 _ _ (by simp) (Nat.zero_le _) (by rw [aZ (fI w _),harrs];simp)
      split at hf
      · rename_i hcond
        obtain ⟨h0,rfl,h1,h2,hzl,hpos,hones⟩:=hcond
        obtain ⟨zv,hzv,rfl⟩:=iH hz
        obtain ⟨arr,hrun,harr⟩:=run_makeSlice (P:=P) (k:=k) (k':=k') hu hsz hzv h0 h1 h2 hpos w
        have hzs:zv.cells.size=size:=by simpa using hzl
        have harrs:arr.size=n.toNat*size:=by rw [harr];simp
        split at hf
        · rename_i ds hds
          simp only [so_]at hf;subst hf
          obtain ⟨q1,q2⟩:=Ap G w hds
          have q1':zv.cells.size=ds.length:=by simpa using q1
          obtain ⟨a1,a2⟩:=oU h hd e arr (sz:=size) (xs:=List.replicate n.toNat ds) (λx hx=>by rw [(List.mem_replicate.1 hx).2,<- q1',hzs]) (by simp [harrs]) (λi j hi hj=>by
            simp only [List.length_replicate]at hi
            simp only [List.getElem_replicate]at hj ⊢
            have hj':j<size:=by omega
            have hlt:i*size+j<n.toNat*size:=Nat.lt_of_lt_of_le (by omega:i*size+j<i*size+size) (by rw [<- Nat.succ_mul];exact Nat.mul_le_mul_right _ hi)
            have hone:∀k (hk:k<zv.cells.toList.length),(zv.cells.toList[k]).oneCell'=true:=λk hk =>
              (kw G w _).oneCell (List.all_eq_true.1 hones _ (List.mem_map.2 ⟨_,List.getElem_mem hk,rfl⟩))
            refine⟨zv.cells[j]!,?_,by rw [getElem!_pos zv.cells j (show j<zv.cells.size by omega)];exact hone j (by simp;omega),?_⟩
            · rw [harr,F6 _ _ _ hlt,hzs,Nat.mul_add_mod',Nat.mod_eq_of_lt hj']
            · have:=q2 j (by simp;omega) hj
              simpa [getElem!_pos,show j<zv.cells.size by omega]using this)
          refine dC.of hrun a2 (a1.mono (λn hn=>hn.imp id (λe=>by rw [e,Nat.mod_eq_of_lt hdl]))) ?_
          have:(⟨w.heap.size,0,none⟩:Addr)=⟨w.heap.size,0+0*size,none⟩:=by simp
          rw [this]
          exact .vs 0 _ _ (by simp) (Nat.le_refl _) (by rw [aZ (fI w _),harrs];simp)
        · split at hf
          · rename_i hone
            subst hone
            simp only [so_]at hf;subst hf
            have hz1:zv.cells.toList.length=1:=by simpa using hzs
            obtain ⟨c0,hc0⟩:=List.length_eq_one_iff.1 hz1
            have hc0':zv.cells = #[c0]:=by apply Array.ext';exact hc0
            have hlen:((List.replicate n.toNat ((zv.cells.toList.map mZ).headD .any))).length=n.toNat:=by simp
            obtain ⟨a1,a2⟩:=h.allocBox d hd (.cells arr e) (.cells 1 (List.replicate n.toNat ((zv.cells.toList.map mZ).headD .any))) (λG' hG' e'=>by
              have hb:=fI w (.cells arr e)
              have hs:Stands G' (w.alloc (.cells arr e)) (.cells 1 (List.replicate n.toNat ((zv.cells.toList.map mZ).headD .any))) w.heap.size 0 1 :=
                { sz:=rfl,even:=trivial
                  room:=by rw [aZ hb,harrs];simp [Box.all]
                  cell:=λj hj=>by
                    have hj':j<n.toNat:=by simpa [Box.all]using hj
                    refine⟨c0,?_,(kw G w c0).oneCell (List.all_eq_true.1 hones _ (List.mem_map.2 ⟨c0,by rw [hc0];simp,rfl⟩)),?_⟩
                    · rw [cell_of_row hb,Nat.zero_add,harr,F6 _ _ _ (by omega),hc0'];simp [Nat.mod_one]
                    · simp only [Box.all,List.getElem_replicate,hc0',List.map_cons,List.headD_cons]
                      exact kw _ _ c0
                  free:=λ_=>⟨⟨arr,e,hb⟩,λo' ho'=>Nat.lt_irrefl _ (h.immB _ _ ((hG' _ _).1 ho'))⟩
                  froz:=λhx=>by simp [Box.mut]at hx
                  cel:=⟨λ_=>rfl,λhs=>absurd hs (by decide)⟩ }
              exact hs)
            refine dC.of hrun a2 (a1.mono (λn hn=>hn.imp id (λe=>by rw [e,Nat.mod_eq_of_lt hdl]))) ?_
            have:(⟨w.heap.size,0,none⟩:Addr)=⟨w.heap.size,0+0*1,none⟩:=by simp
            rw [this]
            exact .vs 0 _ _ (by simp [Box.sz]) (Nat.le_refl _) (by rw [aZ (fI w _),harrs];simp)
          · cases hf
      · cases hf
    · cases hf
  · cases hf
end
end Go.Eng

