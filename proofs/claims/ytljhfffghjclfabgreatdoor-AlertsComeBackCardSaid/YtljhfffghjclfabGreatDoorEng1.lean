/-
  The engine: what the machine does to data, shown once for all programs (part 1).
-/
import Derived.Laws.Sem
import Derived.Lib.ItoaNum
import Derived.Lib.LaidTab
import Derived.Shelf.Unicode.DecodeSlow
import Derived.Test.YtljhfffghjclfabGreatDoorProg
import Derived.Still
import Derived.MapKept
import Derived.Laws.World
import Derived.Laws.Cells
import Derived.Laws.CopyRow
import Derived.Laws.Strings
import Derived.Laws.Pointers
import Derived.Laws.StructEq
/-
  THE ENGINE: what is known of the package-level variables when the law is called: here nothing.
-/
namespace Go.Eng
theorem ob_.{u_1,u_2} {α:Type u_1} {β:Type u_2} (a:α) (f:α->Option β):(some a).bind f=f a:=rfl
theorem so_.{u_1} {α:Type u_1} (a b:α):(some a=some b)=(a=b):=Option.some.injEq a b
theorem ls_ (n:Nat):n<n.succ:=Nat.lt_succ_self n
def wQ : World → Prop := fun w => Go.Lib.TabIs Go.Proofs.Tryz.prog w "internal/strconv.uint64pow10" .u64 Go.Lib.pow10Tab ∧ (∃ m, w.cell? ⟨2, 0, none⟩ = some (.int .i64 m)) ∧ Go.Lib.Utf8Tabs 0 1 w
def byteK:TypeId:=5
class DM where
 dm:Bool
def dmK [DM]:Bool:=DM.dm
instance dmI:DM:=⟨false⟩
@[reducible] def dmT:DM:=⟨true⟩
end Go.Eng

/-
  THE ENGINE, ITS WORDS: data without addresses (D), what a temporary may hold (V), the boxes of a store (Box), and what each operation does to them, computed.
-/
namespace Go.Eng
abbrev Nm:=Nat×Nat
inductive D where
 | int (k:IntKind) (n:Int)
 | bool (b:Bool)
 | str (s:ByteArray)
 | sl (xs:List (List D))
 | agg (cs:List D)
 | ptr (cs:List D)
 | nilp
 | wild (sz len:Nat)
 | wildp (k:Nat)
 | nils
inductive V where
 | d (x:D)
 | nil
 | nilm
 | nili
 | ref (n:Nm) (i j:Nat)
 | vs (n:Nm) (sz k len:Nat)
 | fn (f:FuncId) (caps:List V)
 | agg (cs:List V)
 | tup (vs:List V)
 | map (n:Nm)
 | none
 | any
inductive Box where
 | vec (sz:Nat) (xs:List (List D))
 | froz (sz:Nat) (xs:List (List D))
 | cells (sz:Nat) (cs:List V)
 | map (es:List (D×D))
 | pmap (es:List (D×V))
 | iter (cur:Option (D×V)) (left:List (D×V))
abbrev Store:=Nm->Option Box
structure Eff where
 req:List (Nm×Box)
 upd:List (Nm×Option Box)
 val:V
structure St where
 slots:Nat->V
 store:Store
 tick:Nat
def upd (f:Nat->V) (i:Nat) (v:V):Nat->V:=λj=>bif Nat.beq j i then v else f j
def supd (S:Store) (n:Nm) (b:Option Box):Store:=λm=>if m=n then b else S m
def dn (S:Store):List (Nm×Option Box)->Store
 | []=>S
 | (n,b)::rest=>dn (supd S n b) rest
def F5:List V->Option (List D)
 | []=>some []
 | .d x::vs=>(F5 vs).map (x :: ·)
 | _::_=>Option.none
def qO:List V->Option (List D)
 | []=>some []
 | .d x::vs=>(qO vs).map (x :: ·)
 | .nil::vs=>(qO vs).map (.sl [] :: ·)
 | _::_=>Option.none
def mkAgg (vs:List V):V:=match F5 vs with
 | some ds => .d (.agg ds)
 | Option.none => .agg vs
def aX:V->List V
 | .d (.agg ds)=>ds.map .d
 | .agg vs=>vs
 | v=>[v]
def pg:Value->V
 | .int k n => .d (.int k n)
 | .bool b => .d (.bool b)
 | .string s => .d (.str s)
 | .slice Option.none 0 0 => .nil
 | .pointer Option.none => .d .nilp
 | .map Option.none => .nilm
 | .nilIface => .nili
 | _ => .any
def valV:Value->V
 | .agg cs=>mkAgg (cs.toList.map pg)
 | .tuple vs=>if vs.size=0 then .none else .any
 | v=>pg v
def ev (sl:Nat->V):Operand->V
 | .tmp t=>sl t
 | .const v=>valV v
 | .func f => .fn f []
 | .global _ => .any
def cz (P:Program) (t:TypeId):Bool:=match P.underlying t with
 | some (.struct _) | some (.array _ _)=>true
 | _=>false
def szT (P:Program) (t:TypeId):Option Nat:=match P.info? t,P.underlying t with
 | some i,some _=>some i.size
 | _,_=>Option.none
def x8 (P:Program) (t:TypeId) (f:Nat):Option Field:=match P.underlying t with
 | some (.struct fs)=>fs[f]?
 | _=>Option.none
def elemT (P:Program) (t:TypeId):Option TypeId:=match P.underlying t with
 | some (.slice e)=>some e
 | _=>Option.none
def fq (v:V):Option Eff:=some ⟨[],[],v⟩
def rdD (agg:Bool) (size:Nat) (cs:List D):Option V :=
 bif agg then (bif Nat.ble size cs.length then some (.d (.agg (cs.take size)))else Option.none)
 else match cs with
  | c::_=>some (.d c)
  | []=>Option.none
def rdV (agg:Bool) (size:Nat) (cs:List V):Option V :=
 bif agg then (bif Nat.ble size cs.length then some (mkAgg (cs.take size))else Option.none)
 else match cs with
  | c::_=>some c
  | []=>Option.none
def rH (P:Program) (t:TypeId) (S:Store) (a:V):Option Eff :=
 match szT P t with
 | Option.none=>Option.none
 | some size =>
 match a with
 | .d (.ptr cs)=>(rdD (cz P t) size cs).bind fq
 | .ref n i j=>match S n with
  | some (.vec sz xs)=>match xs[i]? with
   | some cs=>(rdD (cz P t) size (cs.drop j)).map λv=>⟨[(n,.vec sz xs)],[],v⟩
   | Option.none=>Option.none
  | some (.froz sz xs)=>match xs[i]? with
   | some cs=>(rdD (cz P t) size (cs.drop j)).map λv=>⟨[(n,.froz sz xs)],[],v⟩
   | Option.none=>Option.none
  | some (.cells sz cs)=>(rdV (cz P t) size (cs.drop (i*sz+j))).map λv=>⟨[(n,.cells sz cs)],[],v⟩
  | _=>Option.none
 | _=>Option.none
def splice {α:Type} (cs new:List α) (o:Nat):List α:=cs.take o++new++cs.drop (o+new.length)
def iM:V->Bool
 | .d (.agg _) | .agg _ | .tup _ | .none | .any=>false
 | _=>true
def vR (P:Program) (t:TypeId) (S:Store) (a x:V):Option Eff :=
 match szT P t with
 | Option.none=>Option.none
 | some size =>
 match a with
 | .ref n i j=>match S n with
  | some (.cells sz cs) =>
   bif Nat.beq (aX x).length size&&Nat.ble (i*sz+j+size) cs.length&&(aX x).all iM&&Nat.blt sz 1048576 then
    some ⟨[(n,.cells sz cs)],[(n,some (.cells sz (splice cs (aX x) (i*sz+j))))],.none⟩
   else Option.none
  | some (.vec sz xs)=>match xs[i]?,qO (aX x)with
   | some cs,some new =>
    bif Nat.beq new.length size&&Nat.ble (j+size) cs.length&&(aX x).all iM then
     some ⟨[(n,.vec sz xs)],[(n,some (.vec sz (xs.set i (splice cs new j))))],.none⟩
    else Option.none
   | _,_=>Option.none
  | _=>Option.none
 | .d (.wildp k)=>bif Nat.beq (aX x).length size&&Nat.ble size k&&(aX x).all iM&&Nat.blt 0 size then some ⟨[],[],.none⟩else Option.none
 | _=>Option.none
def zeroCells (P:Program) (t:TypeId):Option (List V):=((P.info? t).bind (·.zero)).map λv=>v.cells.toList.map pg
def xm (P:Program) (t:TypeId) (dst:Nat) (tk:Nat):Option Eff :=
 match zeroCells P t with
 | some cs=>bif cs.all iM&&Nat.blt cs.length 1048576 then some ⟨[],[((dst,tk),some (.cells cs.length cs))],.ref (dst,tk) 0 0⟩else Option.none
 | Option.none=>Option.none
def tK (P:Program) (t:TypeId) (dst:Nat) (tk:Nat):Option Eff :=
 match zeroCells P t with
 | some [.d .nilp,.nil]=>some ⟨[],[((dst,tk),some (.cells (1048576+t) [.any,.nil]))],.ref (dst,tk) 0 0⟩
 | _=>Option.none
def MR (v:V) (dst tk:Nat):Option Eff :=
 bif (aX v).all iM&&Nat.blt (aX v).length 1048576 then some ⟨[],[((dst,tk),some (.cells (aX v).length (aX v)))],.ref (dst,tk) 0 0⟩else Option.none
def Ld (op:BinOp) (k:IntKind) (a b:Int):Option D :=
 match op with
 | .add=>some (.int k (k.wrap (a+b)))
 | .sub=>some (.int k (k.wrap (a-b)))
 | .mul=>some (.int k (k.wrap (a*b)))
 | .quo=>if b=0 then Option.none else some (.int k (k.wrap (a.tdiv b)))
 | .rem=>if b=0 then Option.none else some (.int k (a.tmod b))
 | .and=>some (.int k (k.wrap (BitVec.ofInt k.bits a &&& BitVec.ofInt k.bits b).toNat))
 | .or=>some (.int k (k.wrap (BitVec.ofInt k.bits a ||| BitVec.ofInt k.bits b).toNat))
 | .xor=>some (.int k (k.wrap (BitVec.ofInt k.bits a ^^^ BitVec.ofInt k.bits b).toNat))
 | .eql=>some (.bool (a==b))
 | .neq=>some (.bool (a != b))
 | .lss=>some (.bool (a<b))
 | .leq=>some (.bool (a<=b))
 | .gtr=>some (.bool (a>b))
 | .geq=>some (.bool (a>=b))
 | _=>Option.none
def N8 (op:BinOp) (x y:ByteArray):Option D :=
 match op with
 | .add=>if ((x.size+y.size:Nat):Int)>IntKind.i64.max then Option.none else some (.str (x++y))
 | .eql=>some (.bool (x.toList==y.toList))
 | .neq=>some (.bool !(x.toList==y.toList))
 | .lss=>some (.bool (Op.bytesLess x.toList y.toList))
 | .leq=>some (.bool (Op.bytesLess x.toList y.toList||x.toList==y.toList))
 | .gtr=>some (.bool !(Op.bytesLess x.toList y.toList||x.toList==y.toList))
 | .geq=>some (.bool !(Op.bytesLess x.toList y.toList))
 | _=>Option.none
def Qf (op:BinOp) (k:IntKind) (a b:Int):Option D :=
 if b<0 then Option.none else
 match op with
 | .shl=>some (.int k (k.wrap (a*2 ^ (min b.toNat k.bits))))
 | .shr=>some (.int k (a.fdiv (2 ^ (min b.toNat k.bits))))
 | _=>Option.none
def Gv:BinOp->Bool | .shl | .shr=>true | _=>false
def Ji (op:BinOp) (x y:V):Option V :=
 match x,y with
 | .d (.int k a),.d (.int k' b) =>
  bif Gv op then (Qf op k a b).map .d
  else if k=k' then (Ld op k a b).map .d else Option.none
 | .d (.str a),.d (.str b)=>(N8 op a b).map .d
 | _,_=>Option.none
def unF (op:UnOp) (x:V):Option V :=
 match op,x with
 | .neg,.d (.int k n)=>some (.d (.int k (k.wrap (0-n))))
 | .not,.d (.bool b)=>some (.d (.bool !b))
 | _,_=>Option.none
def kG (P:Program) (t:TypeId) (x i:V):Option Eff :=
 match (elemT P t).bind (szT P),i with
 | some size,.d (.int _ i) =>
  bif decide (0<=i)then
  match x with
  | .d (.sl xs)=>match xs[i.toNat]? with
   | some cs=>bif Nat.beq cs.length size then fq (.d (.ptr cs))else Option.none
   | Option.none=>Option.none
  | .vs n sz k len=>bif Nat.ble (i.toNat+1) len&&Nat.beq sz size then fq (.ref n (k+i.toNat) 0)else Option.none
  | .d (.wild sz len)=>bif Nat.ble (i.toNat+1) len&&Nat.beq sz size then fq (.d (.wildp size))else Option.none
  | _=>Option.none
  else Option.none
 | _,_=>Option.none
def je (P:Program) (t:TypeId) (x:V) (f:Nat):Option Eff :=
 match x8 P t f with
 | some h =>
  match szT P h.type with
  | some (_+1) =>
   match x with
   | .d (.ptr cs)=>bif Nat.ble h.offset cs.length then fq (.d (.ptr (cs.drop h.offset)))else Option.none
   | .ref n i j=>fq (.ref n i (j+h.offset))
   | _=>Option.none
  | _=>Option.none
 | Option.none=>Option.none
def Js (P:Program) (t:TypeId) (x:V) (f:Nat):Option V :=
 match x8 P t f with
 | some h=>match szT P h.type with
  | some size=>match x with
   | .d (.agg ds)=>rdD (cz P h.type) size (ds.drop h.offset)
   | .agg vs=>rdV (cz P h.type) size (vs.drop h.offset)
   | _=>Option.none
  | Option.none=>Option.none
 | Option.none=>Option.none
def y5 (h:Nat->Option (Nat×Nat)) (cells:List V):List (Nat×V)->Option (List V)
 | []=>some cells
 | (i,v)::rest=>match h i with
  | Option.none=>Option.none
  | some (off,size) =>
   bif Nat.beq (aX v).length size&&Nat.ble (off+size) cells.length then y5 h (splice cells (aX v) off) rest
   else Option.none
def bN (P:Program) (t:TypeId) (i:Nat):Option (Nat×Nat) :=
 match x8 P t i with
 | some h=>(szT P h.type).map λs=>(h.offset,s)
 | Option.none=>Option.none
def isStruct (P:Program) (t:TypeId):Bool:=match P.underlying t with
 | some (.struct fs)=>fs.all λf=>(P.info? f.type).isSome
 | _=>false
def arrT (P:Program) (t:TypeId):Option Nat:=match P.underlying t with
 | some (.array _ e)=>szT P e
 | _=>Option.none
def Iz (P:Program) (t:TypeId) (parts:List (Nat×V)):Option V :=
 bif isStruct P t then
  match zeroCells P t with
  | some z=>(y5 (bN P t) z parts).map mkAgg
  | Option.none=>Option.none
 else match arrT P t,zeroCells P t with
  | some size,some z=>(y5 (λi=>some (i*size,size)) z parts).map mkAgg
  | _,_=>Option.none
def ou (size:Nat):Nat->List (Nat×V)->Option (List (List D))
 | _,[]=>some []
 | k,(i,v)::rest=>match qO (aX v),ou size (k+1) rest with
  | some ds,some xs=>bif Nat.beq i k&&Nat.beq ds.length size&&(aX v).all iM then some (ds::xs)else Option.none
  | _,_=>Option.none
def kv (P:Program) (t:TypeId) (len:Nat) (parts:List (Nat×V)) (vm:Bool) (dst tk:Nat):Option Eff :=
 match (elemT P t).bind (szT P)with
 | some size=>match ou size 0 parts with
  | some xs=>bif Nat.beq parts.length len&&Nat.ble (len*size) 16777216&&((elemT P t).bind (zeroCells P)).isSome then
    (bif vm then some ⟨[],[((dst,tk),some (.vec size xs))],.vs (dst,tk) size 0 len⟩else bif Nat.beq len 0 then fq .nil else fq (.d (.sl xs)))
   else Option.none
  | Option.none=>Option.none
 | Option.none=>Option.none
def Du (P:Program) (t:TypeId) (x:V):Option V :=
 match P.underlying t,x with
 | some .string,.d (.str s)=>some (.d (.int .i64 s.size))
 | some (.slice _),.d (.sl xs)=>some (.d (.int .i64 xs.length))
 | some (.slice _),.nil=>some (.d (.int .i64 0))
 | some (.slice _),.vs _ _ _ len=>some (.d (.int .i64 len))
 | some (.slice _),.d (.wild _ len)=>some (.d (.int .i64 len))
 | _,_=>Option.none
def Af (x:V) (i:Nat):Option V:=match x with
 | .tup vs=>vs[i]?
 | _=>Option.none
def Bz (P:Program) (t:TypeId) (x i:V):Option V :=
 match P.underlying t,x,i with
 | some .string,.d (.str s),.d (.int _ i)=>bif decide (0<=i)then (s[i.toNat]?).map λb => .d (.int .u8 b.toNat)else Option.none
 | some (.array n e),.d (.agg ds),.d (.int _ i)=>match szT P e with
  | some size=>bif decide (0<=i)&&Nat.blt i.toNat n then rdD (cz P e) size (ds.drop (i.toNat*size))else Option.none
  | Option.none=>Option.none
 | _,_,_=>Option.none
def eqD (P:Program):Nat->TypeId->D->D->Option Bool
 | 0,_,_,_=>Option.none
 | n+1,t,x,y =>
  match P.underlying t,x,y with
  | some .bool,.bool a,.bool b=>some (a==b)
  | some (.int _),.int k a,.int k' b=>if k=k' then some (a==b)else Option.none
  | some .string,.str a,.str b=>some (a.toList==b.toList)
  | some (.struct fs),.agg xs,.agg ys =>
   bif P.stoodInHeld t then Option.none else
   fs.toList.foldr (λf h =>
    match szT P f.type,h with
    | some size,some r =>
     match rdD (cz P f.type) size (xs.drop f.offset),rdD (cz P f.type) size (ys.drop f.offset)with
     | some (.d a), some (.d b) => if f.name = "_" then some r else (eqD P n f.type a b).map (· && r)
     | _,_=>Option.none
    | _,_=>Option.none) (some true)
  | _,_,_=>Option.none
def qh (P:Program) (op:BinOp) (t:TypeId) (x y:V):Option V :=
 match x,y with
 | .d (.agg xs),.d (.agg ys) =>
  bif P.eqGuardType P.depth t then Option.none else
  match op with
  | .eql=>(eqD P 8 t (.agg xs) (.agg ys)).map λb => .d (.bool b)
  | .neq=>(eqD P 8 t (.agg xs) (.agg ys)).map λb => .d (.bool !b)
  | _=>Option.none
 | .d (.bool a),.d (.bool b) =>
  match P.underlying t,op with
  | some .bool,.eql=>some (.d (.bool (a==b)))
  | some .bool,.neq=>some (.d (.bool (!(a==b))))
  | _,_=>Option.none
 | x,y=>Ji op x y
def Dc:Operand->Bool | .const _=>true | _=>false
def LC:V->Option Bool
 | .ref _ _ _=>some false
 | .d (.ptr _)=>some false
 | .d .nilp=>some true
 | _=>Option.none
def ptrF (P:Program) (op:BinOp) (t:TypeId) (x y:V):Option V :=
 match LC x,y with
 | some b,.d .nilp=>match P.underlying t,op with
  | some (.pointer _),.eql=>some (.d (.bool b))
  | some (.pointer _),.neq=>some (.d (.bool !b))
  | _,_=>Option.none
 | _,_=>Option.none
def nilF (P:Program) (op:BinOp) (t:TypeId) (ox oy:Operand) (x y:V):Option V :=
 match x,y with
 | .nili,.nili =>
  bif Dc ox||Dc oy then
  match P.underlying t,op with
  | some (.interface _),.eql=>some (.d (.bool true))
  | some (.interface _),.neq=>some (.d (.bool false))
  | _,_=>Option.none
  else Option.none
 | x,y=>ptrF P op t x y
def CY (P:Program) (op:BinOp) (t:TypeId) (ox oy:Operand) (x y:V):Option V :=
 match qh P op t x y with
 | some v=>some v
 | Option.none=>nilF P op t ox oy x y
theorem uN {P:Program} {op:BinOp} {t:TypeId} {ox oy:Operand} {x y v:V} (h:qh P op t x y=some v):CY P op t ox oy x y=some v:=by unfold CY;rw [h]
def Rq (c a b:V):Option V:=match c with
 | .d (.bool t)=>some (bif t then a else b)
 | _=>Option.none
def yH (x:V):Option V:=match x with
 | .ref .. | .d (.ptr _)=>some x
 | .fn .. => some x
 | _=>Option.none
def CF (P:Program) (h dst:TypeId) (x:V):Option V :=
 match P.underlying h,P.underlying dst,x with
 | some _,some (.int k),.d (.int _ n)=>some (.d (.int k (k.wrap n)))
 | some _,some .string,.d (.str s)=>some (.d (.str s))
 | some (.int _),some .string,.d (.int _ n)=>some (.d (.str (Utf8.encode n)))
 | _,_,_=>Option.none
def pz (d:Nat):Option V->Option Nat
 | Option.none=>some d
 | some (.d (.int _ n))=>bif decide (0<=n)then some n.toNat else Option.none
 | _=>Option.none
def is0:Option V->Bool
 | some (.d (.int _ n))=>decide (n=0)
 | _=>false
def isNo0:Option V->Bool
 | Option.none=>true
 | v=>is0 v
def xZ (h hi mx:Option V):Bool:=isNo0 h&&(is0 hi&&is0 mx)
def isN (v:Option V) (n:Nat):Bool:=match v with
 | some (.d (.int _ k))=>decide (k=(n:Int))
 | _=>false
def NF (h hi mx:Option V) (n:Nat):Bool:=isNo0 h&&(isN hi n&&isN mx n)
def lg (P:Program) (t:TypeId) (x:V) (o hi mx:Option V):Option V :=
 match mx with
 | Option.none =>
  match P.underlying t,x with
  | some .string,.d (.str s) =>
   match pz 0 o,pz s.size hi with
   | some l,some h=>if l<=h/\h<=s.size then some (.d (.str (s.extract l h)))else Option.none
   | _,_=>Option.none
  | some (.slice e),.d (.sl xs) =>
   match szT P e,pz 0 o,pz xs.length hi with
   | some size,some l,some h =>
    if l<=h/\h<=xs.length/\xs.all (λx=>Nat.beq x.length size)=true then some (.d (.sl ((xs.take h).drop l)))else Option.none
   | _,_,_=>Option.none
  | some (.slice e),.vs n sz k len =>
   match szT P e,pz 0 o,pz len hi with
   | some size,some l,some h=>if l<=h/\h<=len/\size=sz then some (.vs n sz (k+l) (h-l))else Option.none
   | _,_,_=>Option.none
  | some (.slice e),.nil =>
   match szT P e,pz 0 o,pz 0 hi with
   | some _,some l,some h=>if l=0/\h=0 then some .nil else Option.none
   | _,_,_=>Option.none
  | _,_=>Option.none
 | some _ =>
  match P.underlying t,x with
  | some (.slice e),.d (.sl xs) =>
   match szT P e with
   | some _=>bif xZ o hi mx then some .nil else bif NF o hi mx xs.length then some (.d (.sl xs))else Option.none
   | Option.none=>Option.none
  | some (.slice e),.vs _ _ _ _ | some (.slice e),.nil =>
   match szT P e with
   | some _=>bif xZ o hi mx then some .nil else Option.none
   | Option.none=>Option.none
  | _,_=>Option.none
def bytesT (P:Program) (t:TypeId):Nat:=((P.info? t).map (·.bytes)).getD 0
def rX (P:Program) (t:TypeId) (l c:V) (dst tk:Nat):Option Eff :=
 match elemT P t,l,c with
 | some e,.d (.int _ n),.d (.int _ m) =>
  match szT P e,zeroCells P e with
  | some size,some z =>
   if n=0/\n<=m/\m*bytesT P e<=2 ^ 48/\m<=2 ^ 48/\z.length=size/\0<size then some ⟨[],[((dst,tk),some (.vec size []))],.vs (dst,tk) size 0 0⟩
   else if 0<=n/\n=m/\n*bytesT P e<=2 ^ 48/\n<=2 ^ 48/\z.length=size/\0<size/\z.all iM=true then
    match F5 z with
    | some ds=>some ⟨[],[((dst,tk),some (.vec size (List.replicate n.toNat ds)))],.vs (dst,tk) size 0 n.toNat⟩
    | Option.none=>if size=1 then some ⟨[],[((dst,tk),some (.cells 1 (List.replicate n.toNat (z.headD .any))))],.vs (dst,tk) 1 0 n.toNat⟩else Option.none
   else Option.none
  | _,_=>Option.none
 | _,_,_=>Option.none
def pK (S:Store) (size:Nat) (y:V):Option (List (List D)×List (Nm×Box)) :=
 match y with
 | .d (.sl ys)=>if ys.all (λx=>Nat.beq x.length size)=true then some (ys,[])else Option.none
 | .nil=>some ([],[])
 | .vs n sz k len=>match S n with
  | some (.vec h xs)=>if sz=size/\k+len<=xs.length then some ((xs.drop k).take len,[(n,.vec h xs)])else Option.none
  | some (.froz h xs)=>if sz=size/\k+len<=xs.length then some ((xs.drop k).take len,[(n,.froz h xs)])else Option.none
  | _=>Option.none
 | _=>Option.none
def kz (S:Store) (size:Nat) (y:V):Option (List (List D)×List (Nm×Box)) :=
 match y with
 | .d (.str s)=>if size=1 then some (s.data.toList.map (λb=>[D.int .u8 b.toNat]),[])else Option.none
 | y=>pK S size y
def I6 (P:Program) (t:TypeId):Option Unit:=match P.underlying t with
 | some (.slice _) | some .string=>some ()
 | _=>Option.none
def jm (P:Program) (t t':TypeId) (S:Store) (x y:V) (dst tk:Nat):Option Eff :=
 match elemT P t,I6 P t' with
 | some e,some _ =>
  match szT P e,zeroCells P e with
  | some size,some z =>
   if z.length=size/\0<size then
   match kz S size y with
   | some (ys,req) =>
    match x with
    | .nil =>
     if (2*ys.length+192)*bytesT P e<=2 ^ 48/\ys.length<=2 ^ 48 then
      match ys with
      | []=>some ⟨req,[],.nil⟩
      | _::_=>some ⟨req,[((dst,tk),some (.vec size ys))],.vs (dst,tk) size 0 ys.length⟩
     else Option.none
    | .vs n sz k len =>
     match S n with
     | some (.vec h xs) =>
      if sz=size/\k+len=xs.length/\(2*(len+ys.length)+192)*bytesT P e<=2 ^ 48/\len+ys.length<=2 ^ 48 then
       match ys with
       | []=>some ⟨(n,.vec h xs)::req,[],.vs n sz k len⟩
       | _::_=>some ⟨(n,.vec h xs)::req,[(n,Option.none),((dst,tk),some (.vec size (xs.drop k++ys)))],.vs (dst,tk) size 0 (len+ys.length)⟩
      else Option.none
     | _=>Option.none
    | _=>Option.none
   | Option.none=>Option.none
   else Option.none
  | _,_=>Option.none
 | _,_=>Option.none
end Go.Eng

/-
  THE ENGINE: how data stand in memory: 'RepD', 'RepV', the store's boxes, and what of them stays where the memory grows.
-/
namespace Go.Eng
set_option linter.unusedSectionVars false
variable [DM]
structure Gh where
  imm:Nat->Nat->Prop
  mu:Nm->Option (Nat×Nat×Nat)
def bsize (w:World) (b:Nat):Nat:=match w.heap[b]? with
  | some (.cells c _ _)=>c.size
  | _=>0
def thawB (w:World) (b:Nat):Prop:=∃arr e,w.heap[b]? = some (.cells arr e (0,0))
theorem Eu {w w':World} {b:Nat} (h:w'.heap[b]? = w.heap[b]?) (k:thawB w b):thawB w' b:=by obtain ⟨a,e,x⟩:=k;exact⟨a,e,h.trans x⟩
inductive RepD (I:Nat->Nat->Prop) (w:World):Value->D->Prop
  | int (k:IntKind) (n:Int):RepD I w (.int k n) (.int k n)
  | bool (b:Bool):RepD I w (.bool b) (.bool b)
  | str (s:ByteArray):RepD I w (.string s) (.str s)
  | agg (arr:List Value) (ds:List D) (hl:arr.length=ds.length)
      (h:∀i (h1:i<arr.length) (h2:i<ds.length),RepD I w arr[i] ds[i]):RepD I w (.agg arr.toArray) (.agg ds)
  | sl0 (a:Option Addr) (cap:Nat):RepD I w (.slice a 0 cap) (.sl [])
  | sl (b off cap sz:Nat) (xs:List (List D)) (us:Nat->Nat->Value) (hcap:xs.length<=cap)
      (hsz:∀i (h:i<xs.length),xs[i].length=sz)
      (hI:∀i j,i<xs.length->j<sz->I b (off+i*sz+j))
      (hc:∀i j,i<xs.length->j<sz->w.cell? ⟨b,off+i*sz+j,none⟩=some (us i j))
      (ho:∀i j,i<xs.length->j<sz->(us i j).oneCell'=true)
      (h:∀i j (hi:i<xs.length) (hj:j<xs[i].length),RepD I w (us i j) xs[i][j]) :
      RepD I w (.slice (some ⟨b,off,none⟩) xs.length cap) (.sl xs)
  | ptr (b o:Nat) (cs:List D) (us:Nat->Value) (hI:∀j,j<cs.length->I b (o+j))
      (hc:∀j,j<cs.length->w.cell? ⟨b,o+j,none⟩=some (us j))
      (h:∀j (hj:j<cs.length),RepD I w (us j) cs[j]):RepD I w (.pointer (some ⟨b,o,none⟩)) (.ptr cs)
  | nilp:RepD I w (.pointer none) .nilp
  | nils (a:Option Addr):RepD I w (.slice a 0 0) .nils
  | wild0 (a:Option Addr) (cap sz:Nat):RepD I w (.slice a 0 cap) (.wild sz 0)
  | wild (b off cap sz len m:Nat) (ht:thawB w b) (hm:I b m) (hf:∀o,off<=o->o<off+len*sz->¬I b o) (hb:off+len*sz<=bsize w b):RepD I w (.slice (some ⟨b,off,none⟩) len cap) (.wild sz len)
  | wildp (b off k m:Nat) (ht:thawB w b) (hm:I b m) (hf:∀o,off<=o->o<off+k->¬I b o) (hb:off+k<=bsize w b):RepD I w (.pointer (some ⟨b,off,none⟩)) (.wildp k)
inductive RepV (G:Gh) (w:World):Value->V->Prop
  | d {v:Value} {x:D} (h:RepD G.imm w v x):RepV G w v (.d x)
  | nil (a:Option Addr):RepV G w (.slice a 0 0) .nil
  | nilm:RepV G w (.map none) .nilm
  | nili:RepV G w .nilIface .nili
  | ref {n:Nm} {b o sz:Nat} (i j:Nat) (h:G.mu n=some (b,o,sz)):RepV G w (.pointer (some ⟨b,o+i*sz+j,none⟩)) (.ref n i j)
  | vs0 (n:Nm) (sz k:Nat) (a:Option Addr):RepV G w (.slice a 0 0) (.vs n sz k 0)
  | vs {n:Nm} {b o sz:Nat} (k len cap:Nat) (h:G.mu n=some (b,o,sz)) (hc:len<=cap) (hb:o+(k+cap)*sz<=bsize w b) :
      RepV G w (.slice (some ⟨b,o+k*sz,none⟩) len cap) (.vs n sz k len)
  | fn (f:FuncId) (arr:List Value) (vs:List V) (hl:arr.length=vs.length)
      (h:∀i (h1:i<arr.length) (h2:i<vs.length),RepV G w arr[i] vs[i]) (hb:Nat.blt f 1000000000=true\/vs=[]):RepV G w (.func (.func f) #[] arr.toArray) (.fn f vs)
  | fnb (f:FuncId) (a:Value) (v:V) (h:RepV G w a v):RepV G w (.func (.func f) #[a] #[]) (.fn (f+1000000000) [v])
  | agg (arr:List Value) (vs:List V) (hl:arr.length=vs.length)
      (h:∀i (h1:i<arr.length) (h2:i<vs.length),RepV G w arr[i] vs[i]):RepV G w (.agg arr.toArray) (.agg vs)
  | tup (arr:List Value) (vs:List V) (hl:arr.length=vs.length)
      (h:∀i (h1:i<arr.length) (h2:i<vs.length),RepV G w arr[i] vs[i]):RepV G w (.tuple arr.toArray) (.tup vs)
  | map {n:Nm} {b o sz:Nat} (h:G.mu n=some (b,o,sz)):RepV G w (.map (some b)) (.map n)
  | none:RepV G w undef .none
  | any (v:Value):RepV G w v .any
def elemAt (w:World) (b:Nat):Option TypeId:=match w.heap[b]? with | some (.cells _ e _)=>some e | _=>none
theorem fw {w:World} {b:Nat} {arr:Array Value} {e:TypeId} {o:_} (h:w.heap[b]? = some (.cells arr e o)):elemAt w b=some e:=by unfold elemAt;rw [h]
theorem xG {w w':World} {b:Nat} (h:w'.heap[b]? = w.heap[b]?):elemAt w' b=elemAt w b:=by unfold elemAt;rw [h]
structure Ext (G:Gh) (w:World) (G':Gh) (w':World):Prop where
  imm:∀b o,G.imm b o->G'.imm b o
  cell:∀b o,G.imm b o->w'.cell? ⟨b,o,Option.none⟩=w.cell? ⟨b,o,Option.none⟩
  mu:∀n x,G.mu n=some x->G'.mu n=some x
  size:∀b,bsize w b<=bsize w' b
  elem:∀b e,elemAt w b=some e->elemAt w' b=some e
  map:∀b arr clk,(∃o,G.imm b o)->w.heap[b]? = some (.map arr clk)->w'.heap[b]? = some (.map arr clk)
  still:∀b o m,G.imm b m->G'.imm b o->G.imm b o
  thaw:∀b m,G.imm b m->thawB w b->thawB w' b
theorem Ext.refl (G:Gh) (w:World):Ext G w G w:=⟨λ_ _ h=>h,λ_ _ _=>rfl,λ_ _ h=>h,λ_=>Nat.le_refl _,λ_ _ h=>h,λ_ _ _ _ h=>h,λ_ _ _ _ h=>h,λ_ _ _ h=>h⟩
theorem Ext.trans {G G' A:Gh} {w w' w'':World} (h:Ext G w G' w') (k:Ext G' w' A w''):Ext G w A w'' :=
  ⟨λb o x=>k.imm b o (h.imm b o x),λb o x=>(k.cell b o (h.imm b o x)).trans (h.cell b o x),λn x e=>k.mu n x (h.mu n x e),
   λb=>Nat.le_trans (h.size b) (k.size b),λb e x=>k.elem b e (h.elem b e x),λb arr B ⟨o,x⟩ e=>k.map b arr B ⟨o,h.imm b o x⟩ (h.map b arr B ⟨o,x⟩ e),
   λb o m x y=>h.still b o m x (k.still b o m (h.imm b m x) y),λb m x y=>k.thaw b m (h.imm b m x) (h.thaw b m x y)⟩
theorem Ext.sizeI {G G':Gh} {w w':World} (e:Ext G w G' w'):∀b m,G.imm b m->bsize w b<=bsize w' b/\(thawB w b->thawB w' b):=λb m h=>⟨e.size b,e.thaw b m h⟩
theorem RepD.ext {I L:Nat->Nat->Prop} {w w':World} {v:Value} {x:D} (h:RepD I w v x) (hI:∀b o,I b o->L b o)
    (hc:∀b o,I b o->w'.cell? ⟨b,o,Option.none⟩=w.cell? ⟨b,o,Option.none⟩) (hs:∀b o m,I b m->L b o->I b o) (J:∀b m,I b m->bsize w b<=bsize w' b/\(thawB w b->thawB w' b)):RepD L w' v x:=by
  induction h with
  | int k n=>exact .int k n
  | bool b=>exact .bool b
  | str s=>exact .str s
  | agg arr ds hl _ F=>exact .agg arr ds hl F
  | sl0 a cap=>exact .sl0 a cap
  | sl b off cap sz xs us hcap hsz A B ho _ F =>
    exact .sl b off cap sz xs us hcap hsz (λi j hi hj=>hI _ _ (A i j hi hj)) (λi j hi hj=>(hc _ _ (A i j hi hj)).trans (B i j hi hj)) ho F
  | nilp=>exact .nilp
  | ptr b o cs us A B _ F=>exact .ptr b o cs us (λj hj=>hI _ _ (A j hj)) (λj hj=>(hc _ _ (A j hj)).trans (B j hj)) F
  | nils a=>exact .nils a
  | wild0 a cap sz=>exact .wild0 a cap sz
  | wild b off cap sz len m ht hm hf hb=>exact .wild b off cap sz len m ((J b m hm).2 ht) (hI _ _ hm) (λo h1 h2 h=>hf o h1 h2 (hs b o m hm h)) (Nat.le_trans hb (J b m hm).1)
  | wildp b off k m ht hm hf hb=>exact .wildp b off k m ((J b m hm).2 ht) (hI _ _ hm) (λo h1 h2 h=>hf o h1 h2 (hs b o m hm h)) (Nat.le_trans hb (J b m hm).1)
theorem RepV.ext {G G':Gh} {w w':World} {v:Value} {x:V} (h:RepV G w v x) (e:Ext G w G' w'):RepV G' w' v x:=by
  induction h with
  | d h=>exact .d (h.ext e.imm e.cell e.still e.sizeI)
  | nil a=>exact .nil a
  | nilm=>exact .nilm
  | nili=>exact .nili
  | ref i j h=>exact .ref i j (e.mu _ _ h)
  | vs0 n sz k a=>exact .vs0 n sz k a
  | vs k len cap h hc hb=>exact .vs k len cap (e.mu _ _ h) hc (Nat.le_trans hb (e.size _))
  | fn f arr vs hl _ hb o=>exact .fn f arr vs hl o hb
  | fnb f a v _ o=>exact .fnb f a v o
  | agg arr vs hl _ o=>exact .agg arr vs hl o
  | tup arr vs hl _ o=>exact .tup arr vs hl o
  | map h=>exact .map (e.mu _ _ h)
  | none=>exact .none
  | any v=>exact .any v
def Box.all:Box->List V
  | .vec _ xs | .froz _ xs=>(xs.map λx=>x.map V.d).flatten
  | .cells _ cs=>cs
  | _=>[]
def Box.sz:Box->Nat
  | .vec sz _ | .froz sz _ | .cells sz _=>sz
  | _=>0
def Box.row:Box->Bool
  | .vec _ _ | .froz _ _ | .cells _ _=>true
  | _=>false
def Box.even:Box->Prop
  | .vec sz xs | .froz sz xs=>∀x∈xs,x.length=sz
  | _=>True
def Box.mut:Box->Bool
  | .froz _ _=>false
  | _=>true
def bldB (w:World) (t b:Nat):Prop:=∃p v,w.heap[b]? = some (.cells #[p,v] t (0,0))/\(p = .pointer none\/p = .pointer (some ⟨b,0,none⟩))/\(v = .slice none 0 0\/∃g n cap,v = .slice (some ⟨g,0,none⟩) n cap/\0<cap/\elemAt w g=some byteK)
def celB (w:World) (bx:Box) (b o:Nat):Prop:=match bx with
  | .cells s _=>(s=1\/1048576<=s->o=0)/\(1048576<=s->bldB w (s-1048576) b)
  | _=>True
def celK (bx bx':Box) (off:Nat):Prop:=match bx' with
  | .cells s _=>(∃h,bx = .cells s h)/\s<1048576
  | _=>True
theorem celB.ext {w w':World} {bx:Box} {b o:Nat} (h:celB w bx b o) (hb:bx.mut=true->w'.heap[b]? = w.heap[b]?) (he:∀b e,elemAt w b=some e->elemAt w' b=some e):celB w' bx b o:=by
  cases bx with
  | cells s cs =>
    refine⟨h.1,λhs => ?_⟩
    obtain ⟨p,v,h1,h2,F⟩:=h.2 hs
    exact⟨p,v,(hb rfl).trans h1,h2,F.imp id fun⟨g,n,cap,I,B,A⟩=>⟨g,n,cap,I,B,he _ _ A⟩⟩
  | _=>exact trivial
structure Stands (G:Gh) (w:World) (bx:Box) (b o sz:Nat):Prop where
  sz:sz=bx.sz
  even:bx.even
  room:o+bx.all.length<=bsize w b
  cell:∀j (h:j<bx.all.length),∃u,w.cell? ⟨b,o+j,none⟩=some u/\u.oneCell'=true/\RepV G w u bx.all[j]
  free:bx.mut=true->(∃arr elem,w.heap[b]? = some (.cells arr elem (0,0)))/\∀o',¬G.imm b o'
  froz:bx.mut=false->∀j,j<bx.all.length->G.imm b (o+j)
  cel:celB w bx b o:=by exact trivial
def Pf (G:Gh) (w:World) (es:List (D×D)) (b:Nat):Prop :=
  (∀o,¬G.imm b o)/\∃arr h,(w.heap[b]? = some (.map arr h)/\MapKept.Stamped arr h)/\arr.size=es.length /\
    ∀i (h1:i<arr.size) (h2:i<es.length),RepD G.imm w arr[i].key es[i].1/\RepD G.imm w arr[i].val es[i].2
def LM (G:Gh) (w:World) (es:List (D×V)) (b:Nat):Prop :=
  (∀o,¬G.imm b o)/\∃arr h,(w.heap[b]? = some (.map arr h)/\MapKept.Stamped arr h)/\arr.size=es.length /\
    ∀i (h1:i<arr.size) (h2:i<es.length),RepD G.imm w arr[i].key es[i].1/\RepV G w arr[i].val es[i].2
def kP (arr:Array MapEntry) (h:Array Nat):List MapEntry:=arr.toList.filter λe => !h.contains e.born
def Ab (G:Gh) (w:World) (cur:Option (D×V)) (left:List (D×V)) (b o:Nat):Prop :=
  (o=0/\∀I,¬G.imm b I)/\∃B arr A h,w.heap[b]? = some (.mapIter (some B) A h A)/\(∃o,G.imm B o)/\w.heap[B]? = some (.map arr A)/\MapKept.Stamped arr A /\
    (kP arr h).length=left.length/\(∀i (h1:i<(kP arr h).length) (h2:i<left.length),RepD G.imm w (kP arr h)[i].key left[i].1/\RepV G w (kP arr h)[i].val left[i].2) /\
    ∀x,cur=some x->∃e∈arr.toList,(∃F:Array Nat,h=F.push e.born)/\RepD G.imm w e.key x.1/\RepV G w e.val x.2
def StandsBox (G:Gh) (w:World) (bx:Box) (b o sz:Nat):Prop:=match bx with
  | .map es=>Pf G w es b
  | .pmap es=>LM G w es b
  | .iter cur left=>Ab G w cur left b o
  | bx=>Stands G w bx b o sz
def Kn (G:Gh) (w:World):Prop:=∃h:World,wQ h/\∀b o,b<h.heap.size->G.imm b o/\w.cell? ⟨b,o,Option.none⟩=h.cell? ⟨b,o,Option.none⟩
theorem Kn.ext {G G':Gh} {w w':World} (h:Kn G w) (hI:∀b o,G.imm b o->G'.imm b o) (hc:∀b o,G.imm b o->w'.cell? ⟨b,o,Option.none⟩=w.cell? ⟨b,o,Option.none⟩):Kn G' w':=by
  obtain ⟨A,h1,h2⟩:=h
  exact⟨A,h1,λb o hb=>⟨hI _ _ (h2 b o hb).1,(hc _ _ (h2 b o hb).1).trans (h2 b o hb).2⟩⟩
def Wm (G:Gh) (w:World) (b:Nat):Prop:=(∃m,G.imm b m)/\∃o,o<bsize w b/\¬G.imm b o
structure Env where
  G:Gh
  w:World
  M:Nat->Prop
structure Inv (E:Env) (G:Gh) (w:World) (S:Store) (tk:Nat) (U:Nat->Prop):Prop where
  ext:Ext E.G E.w G w
  newI:∀b o,G.imm b o->E.G.imm b o\/E.w.heap.size<=b\/E.M b
  frame:∀b,b<E.w.heap.size->¬E.M b->¬Wm E.G E.w b->w.heap[b]? = E.w.heap[b]?
  size:E.w.heap.size<=w.heap.size
  os:w.os=E.w.os
  tape:w.tape=E.w.tape
  output:w.output=E.w.output
  box:∀n bx,S n=some bx->∃b o sz,G.mu n=some (b,o,sz)/\StandsBox G w bx b o sz/\(bx.mut=true->E.w.heap.size<=b\/E.M b)
  one:∀n m bx by' b o sz o' sz',S n=some bx->S m=some by'->bx.mut=true->G.mu n=some (b,o,sz)->G.mu m=some (b,o',sz')->n=m
  tick:∀n x,G.mu n=some x->n.2<tk\/(n.2=tk/\U n.1)
  bound:∀n b o sz,G.mu n=some (b,o,sz)->b<w.heap.size
  immB:∀b o,G.imm b o->b<w.heap.size
  kn:Kn E.G E.w
  dr:dmK=true->E.w.drawn<=w.drawn
end Go.Eng

/-
  THE ENGINE: the steps of memory: a new row that is never written, a new box, a box that is written, frozen.
-/
namespace Go.Eng
set_option linter.unusedSectionVars false
variable [DM]
theorem zM {w w':World} {b:Nat} (h:w'.heap[b]? = w.heap[b]?) (o:Nat):w'.cell? ⟨b,o,none⟩=w.cell? ⟨b,o,none⟩:=by
  simp [World.cell?,h]
theorem wE {w w':World} {b:Nat} (h:w'.heap[b]? = w.heap[b]?):bsize w' b=bsize w b:=by
  simp [bsize,h]
theorem alloc_old (w:World) (o:Obj) {b:Nat} (h:b<w.heap.size):(w.alloc o).heap[b]? = w.heap[b]? := by
  simp only [World.alloc,Array.getElem?_push];rw [if_neg (by omega)]
theorem gq (w:World) (o:Obj):(w.alloc o).heap[w.heap.size]? = some o:=by
  show (w.heap.push o)[w.heap.size]? = some o
  simp
theorem Ii (w:World) {b:Nat} (h:w.heap.size<=b):w.heap[b]? = none:=by simp [h]
theorem Pi (w:World) {b:Nat} (h:w.heap.size<=b):bsize w b=0:=by simp [bsize,Ii w h]
theorem xB {G G':Gh} {w w':World} (hi:∀b o,G.imm b o->G'.imm b o) (hb:∀b o,G.imm b o->b<w.heap.size)
    (hm:∀n x,G.mu n=some x->G'.mu n=some x) (A:∀b,b<w.heap.size->(w'.heap[b]? = w.heap[b]? \/ ((∀o,¬G.imm b o)/\bsize w b<=bsize w' b/\∀e,elemAt w b=some e->elemAt w' b=some e))) (hs:∀b o m,G.imm b m->G'.imm b o->G.imm b o:=by intro b o m h k;exact k) :
    Ext G w G' w' where
  still:=hs
  thaw b m hm ht:=by
    rcases A b (hb b m hm)with e|e
    · exact Eu e ht
    · exact absurd hm (e.1 m)
  imm:=hi
  cell b o h:=by
    rcases A b (hb b o h)with e|e
    · exact zM e o
    · exact absurd h (e.1 o)
  mu:=hm
  size b:=by
    rcases Nat.lt_or_ge b w.heap.size with h|h
    · rcases A b h with e | e
      · rw [wE e];exact Nat.le_refl _
      · exact e.2.1
    · rw [Pi w h];exact Nat.zero_le _
  elem b e he:=by
    rcases Nat.lt_or_ge b w.heap.size with h|h
    · rcases A b h with k | k
      · rw [xG k];exact he
      · exact k.2.2 e he
    · unfold elemAt at he;rw [Ii w h]at he;cases he
  map b arr clk:=fun⟨o,h⟩ e=>by
    rcases A b (hb b o h)with k|k
    · rw [k];exact e
    · exact absurd h (k.1 o)
theorem Stands.ext {G G':Gh} {w w':World} {bx:Box} {b o sz:Nat} (h:Stands G w bx b o sz) (e:Ext G w G' w')
    (hb:bx.mut=true->w'.heap[b]? = w.heap[b]?) (J:bx.mut=true->∀A,G'.imm b A->G.imm b A):Stands G' w' bx b o sz where
  sz:=h.sz
  even:=h.even
  room:=Nat.le_trans h.room (e.size b)
  cell j hj:=by
    obtain ⟨u,F,h1,I⟩:=h.cell j hj
    cases hm:bx.mut with
    | true=>exact⟨u,by rw [zM (hb hm)];exact F,h1,I.ext e⟩
    | false=>exact⟨u,by rw [e.cell b (o+j) (h.froz hm j hj)];exact F,h1,I.ext e⟩
  free hm:=by
    obtain ⟨⟨arr,elem,L⟩,hf⟩:=h.free hm
    exact⟨⟨arr,elem,by rw [hb hm];exact L⟩,λA B=>hf A (J hm A B)⟩
  froz hm j hj:=e.imm _ _ (h.froz hm j hj)
  cel:=h.cel.ext hb e.elem
theorem StandsBox.noimm {G:Gh} {w:World} {bx:Box} {b o sz:Nat} (h:StandsBox G w bx b o sz) (hm:bx.mut=true):∀B,¬G.imm b B:=by
  cases bx with
  | map es=>exact h.1
  | pmap es=>exact h.1
  | iter cur left=>exact h.1.2
  | vec A xs=>exact (Stands.free h hm).2
  | froz A xs=>exact (Stands.free h hm).2
  | cells A cs=>exact (Stands.free h hm).2
theorem StandsBox.ext {G G':Gh} {w w':World} {bx:Box} {b o sz:Nat} (h:StandsBox G w bx b o sz) (e:Ext G w G' w')
    (hb:bx.mut=true->w'.heap[b]? = w.heap[b]?) (J:bx.mut=true->∀F,G'.imm b F->G.imm b F):StandsBox G' w' bx b o sz:=by
  cases bx with
  | map es =>
    obtain ⟨I,arr,A,h1,h2,O⟩:=h
    refine⟨λF B=>I F (J rfl F B),arr,A,⟨by rw [hb rfl];exact h1.1,h1.2⟩,h2,λi a c => ?_⟩
    obtain ⟨N,L⟩:=O i a c
    exact⟨N.ext e.imm e.cell e.still e.sizeI,L.ext e.imm e.cell e.still e.sizeI⟩
  | pmap es =>
    obtain ⟨I,arr,A,h1,h2,O⟩:=h
    refine⟨λF B=>I F (J rfl F B),arr,A,⟨by rw [hb rfl];exact h1.1,h1.2⟩,h2,λi a c => ?_⟩
    obtain ⟨N,L⟩:=O i a c
    exact⟨N.ext e.imm e.cell e.still e.sizeI,L.ext e⟩
  | iter cur left =>
    obtain ⟨I,W,arr,A,M,h1,⟨R,hi⟩,h2,O,N,L,Z⟩:=h
    refine⟨⟨I.1,λF B=>I.2 F (J rfl F B)⟩,W,arr,A,M,by rw [hb rfl];exact h1,⟨R,e.imm _ _ hi⟩,e.map _ _ _ ⟨R,hi⟩ h2,O,N,λi a c => ?_,λx Y => ?_⟩
    · exact⟨(L i a c).1.ext e.imm e.cell e.still e.sizeI,(L i a c).2.ext e⟩
    · obtain ⟨en,X,k2,k3,k4⟩:=Z x Y
      exact⟨en,X,k2,k3.ext e.imm e.cell e.still e.sizeI,k4.ext e⟩
  | vec sz xs=>exact Stands.ext h e hb J
  | froz sz xs=>exact Stands.ext h e hb J
  | cells sz xs=>exact Stands.ext h e hb J
theorem Inv.more {E:Env} {G G':Gh} {w w':World} {S:Store} {tk:Nat} {U U':Nat->Prop} (h:Inv E G w S tk U)
    (O:∀b,b<w.heap.size->w'.heap[b]? = w.heap[b]?) (hs:w.heap.size<=w'.heap.size)
    (F:w'.os=w.os) (ht:w'.tape=w.tape) (ho:w'.output=w.output)
    (hi:∀b o,G.imm b o->G'.imm b o) (B:∀b o,G'.imm b o->G.imm b o\/(w.heap.size<=b/\b<w'.heap.size)) (hm:G'.mu=G.mu) (W:∀n,U n->U' n) (J:dmK=true->w.drawn<=w'.drawn:=by intro _;first | exact Nat.le_refl _ | (simp;done) | (simp;omega)) :
    Inv E G' w' S tk U'/\Ext G w G' w':=by
  have e:Ext G w G' w':=xB hi h.immB (λn x A=>by rw [hm];exact A) (λb hb => .inl (O b hb)) (λb o m h1 h2=>(B b o h2).resolve_right (by have:=h.immB b m h1;omega))
  refine⟨⟨h.ext.trans e,?_,?_,Nat.le_trans h.size hs,F.trans h.os,ht.trans h.tape,ho.trans h.output,?_,?_,?_,?_,?_,h.kn,λk=>Nat.le_trans (h.dr k) (J k)⟩,e⟩
  · intro b o hb
    rcases B b o hb with hb|hb
    · exact h.newI b o hb
    · exact .inr (.inl (Nat.le_trans h.size hb.1))
  · intro b hb Y hW
    rw [O b (Nat.lt_of_lt_of_le hb h.size)];exact h.frame b hb Y hW
  · intro n bx M
    obtain ⟨b,o,sz,h1,h2,Z⟩:=h.box n bx M
    have hb:=h.bound n b o sz h1
    exact⟨b,o,sz,by rw [hm];exact h1,h2.ext e (λ_=>O b hb) (λ_ N L=>(B b N L).resolve_right (by omega)),Z⟩
  · intro n m bx R b o sz N I X a2 a3 a4 a5
    rw [hm]at a4 a5
    exact h.one n m bx R b o sz N I X a2 a3 a4 a5
  · intro n x A
    rw [hm]at A
    exact (h.tick n x A).imp id (fun⟨a,c⟩=>⟨a,W _ c⟩)
  · intro n b o sz A
    rw [hm]at A
    exact Nat.lt_of_lt_of_le (h.bound n b o sz A) hs
  · intro b o hb
    rcases B b o hb with hb|hb
    · exact Nat.lt_of_lt_of_le (h.immB b o hb) hs
    · exact hb.2
theorem Inv.allocImm {E:Env} {G:Gh} {w:World} {S:Store} {tk:Nat} {U U':Nat->Prop} (h:Inv E G w S tk U) (arr:Array Value) (elem:TypeId) (A:∀n,U n->U' n) :
    Inv E ⟨λb o=>G.imm b o\/(b=w.heap.size/\o<arr.size),G.mu⟩ (w.alloc (.cells arr elem)) S tk U' /\
    Ext G w ⟨λb o=>G.imm b o\/(b=w.heap.size/\o<arr.size),G.mu⟩ (w.alloc (.cells arr elem)) :=
  h.more (λ_ hb=>alloc_old w _ hb) (by simp) rfl rfl rfl (λ_ _ h => .inl h)
    (λb o hb=>hb.imp id (fun⟨e,_⟩=>by subst e;exact⟨Nat.le_refl _,by simp⟩)) rfl A
theorem Inv.allocBox {E:Env} {G:Gh} {w:World} {S:Store} {tk:Nat} {U:Nat->Prop} (h:Inv E G w S tk U) (dst:Nat) (hd:¬U dst)
    (o:Obj) (bx:Box)
    (hst:∀G',(∀b o,G'.imm b o↔G.imm b o)->Ext G w G' (w.alloc o)->StandsBox G' (w.alloc o) bx w.heap.size 0 bx.sz) :
    Inv E ⟨G.imm,λm=>if m=(dst,tk)then some (w.heap.size,0,bx.sz)else G.mu m⟩ (w.alloc o) (supd S (dst,tk) (some bx)) tk (λu=>U u\/u=dst) /\
    Ext G w ⟨G.imm,λm=>if m=(dst,tk)then some (w.heap.size,0,bx.sz)else G.mu m⟩ (w.alloc o):=by
  have hnew:G.mu (dst,tk)=none:=by
    cases hx:G.mu (dst,tk)with
    | none=>rfl
    | some x => rcases h.tick _ _ hx with h1 | ⟨_, h1⟩
                · exact absurd h1 (Nat.lt_irrefl _)
                · exact absurd h1 hd
  have e:Ext G w ⟨G.imm,λm=>if m=(dst,tk)then some (w.heap.size,0,bx.sz)else G.mu m⟩ (w.alloc o) :=
    xB (λ_ _ h=>h) h.immB (λn x hx=>by
      show (if n=(dst,tk)then _ else G.mu n)=_
      rw [if_neg (λe=>by rw [e,hnew]at hx;cases hx)];exact hx) (λb hb => .inl (alloc_old w _ hb))
  refine⟨⟨h.ext.trans e,h.newI,?_,Nat.le_trans h.size (by simp),h.os,h.tape,h.output,?_,?_,?_,?_,?_,h.kn,h.dr⟩,e⟩
  · intro b hb hM hW
    rw [alloc_old w _ (Nat.lt_of_lt_of_le hb h.size)];exact h.frame b hb hM hW
  · intro n by' hby
    by_cases hn:n=(dst,tk)
    · subst hn
      simp only [supd,if_true,so_]at hby
      subst hby
      exact⟨w.heap.size,0,bx.sz,by simp,hst _ (λ_ _=>Iff.rfl) e,λ_ => .inl h.size⟩
    · simp only [supd,hn,if_false]at hby
      obtain ⟨b,o',sz,h1,h2,h3⟩:=h.box n by' hby
      have hb:=h.bound n b o' sz h1
      exact⟨b,o',sz,by simp [hn,h1],h2.ext e (λ_=>alloc_old w _ hb) (λ_ _ h=>h),h3⟩
  · intro n m bx1 by1 b o1 sz1 o2 sz2 a1 a2 a3 a4 a5
    simp only at a4 a5
    by_cases hn:n=(dst,tk)
    · by_cases hm:m=(dst,tk)
      · rw [hn,hm]
      · simp only [hn,if_true,so_,Prod.mk.injEq]at a4
        simp only [hm,if_false]at a5
        have:=h.bound _ _ _ _ a5
        omega
    · by_cases hm:m=(dst,tk)
      · simp only [hm,if_true,so_,Prod.mk.injEq]at a5
        simp only [hn,if_false]at a4
        have:=h.bound _ _ _ _ a4
        omega
      · simp only [hn,hm,if_false]at a4 a5
        simp only [supd,hn,hm,if_false]at a1 a2
        exact h.one n m bx1 by1 b o1 sz1 o2 sz2 a1 a2 a3 a4 a5
  · intro n x hx
    simp only at hx
    by_cases hn:n=(dst,tk)
    · subst hn;exact .inr ⟨rfl,.inr rfl⟩
    · simp only [hn,if_false]at hx
      exact (h.tick n x hx).imp id (fun⟨a,c⟩=>⟨a,.inl c⟩)
  · intro n b o1 sz1 hx
    simp only at hx
    by_cases hn:n=(dst,tk)
    · simp only [hn,if_true,so_,Prod.mk.injEq]at hx
      simp;omega
    · simp only [hn,if_false]at hx
      have:=h.bound n b o1 sz1 hx
      simp;omega
  · intro b o1 hb
    have:=h.immB b o1 hb
    simp;omega
theorem Inv.write {E:Env} {G:Gh} {w w':World} {S:Store} {tk:Nat} {U:Nat->Prop} (h:Inv E G w S tk U) {n:Nm} {bx:Box} {b o sz:Nat}
    (hS:S n=some bx) (B:bx.mut=true) (O:G.mu n=some (b,o,sz))
    (hh:∀b',b'≠b->w'.heap[b']? = w.heap[b']?) (hsz:w'.heap.size=w.heap.size) (hbs:bsize w b<=bsize w' b) (hel:∀e,elemAt w b=some e->elemAt w' b=some e) (I:∀M,¬G.imm b M)
    (W:w'.os=w.os) (ht:w'.tape=w.tape) (ho:w'.output=w.output)
    (bx':Box) (hst:Ext G w G w'->StandsBox G w' bx' b o sz) (Y:dmK=true->w.drawn<=w'.drawn:=by intro _;first | exact Nat.le_refl _ | (simp;done) | (simp;omega)) :
    Inv E G w' (supd S n (some bx')) tk U/\Ext G w G w':=by
  have e:Ext G w G w':=xB (λ_ _ h=>h) h.immB (λ_ _ h=>h) (λb' _=>by
    by_cases hb:b'=b
    · subst hb;exact .inr ⟨I,hbs,hel⟩
    · exact .inl (hh b' hb))
  obtain ⟨b₁,o₁,sz₁,X,k2,k3⟩:=h.box n bx hS
  rw [O]at X
  simp only [so_,Prod.mk.injEq]at X
  obtain ⟨rfl,rfl,rfl⟩:=X
  refine⟨⟨h.ext.trans e,h.newI,?_,by rw [hsz];exact h.size,W.trans h.os,ht.trans h.tape,ho.trans h.output,?_,?_,h.tick,?_,?_,h.kn,λk=>Nat.le_trans (h.dr k) (Y k)⟩,e⟩
  · intro b' hb hM hW
    rw [hh b' (λN=>by subst N;rcases k3 B with h1 | h1;exact absurd hb (by omega);exact hM h1)]
    exact h.frame b' hb hM hW
  · intro m A F
    by_cases hm:m=n
    · subst hm
      simp only [supd,if_true,so_]at F
      subst F
      exact⟨b,o,sz,O,hst e,λ_=>k3 B⟩
    · simp only [supd,hm,if_false]at F
      obtain ⟨b',M,J,h1,h2,h3⟩:=h.box m A F
      have Z:b'≠b:=λN=>by subst N;exact hm (h.one n m bx A b' o sz M J hS F B O h1).symm
      exact⟨b',M,J,h1,h2.ext e (λ_=>hh b' Z) (λ_ _ h=>h),h3⟩
  · intro n1 m1 bx1 by1 b1 o1 sz1 o2 sz2 a1 a2 a3 a4 a5
    have get:∀{m A},supd S n (some bx') m=some A->∃L,S m=some L/\(A.mut=true->L.mut=true):=by
      intro m A N
      by_cases hm:m=n
      · subst hm;exact⟨bx,hS,λ_=>B⟩
      · simp only [supd,hm,if_false]at N;exact⟨A,N,id⟩
    obtain ⟨bx2,c1,c2⟩:=get a1
    obtain ⟨R,c3,_⟩:=get a2
    exact h.one n1 m1 bx2 R b1 o1 sz1 o2 sz2 c1 c3 (c2 a3) a4 a5
  · intro m b' M J N;rw [hsz];exact h.bound m b' M J N
  · intro b' M hb;rw [hsz];exact h.immB b' M hb
theorem Inv.freeze {E:Env} {G:Gh} {w:World} {S:Store} {tk:Nat} {U:Nat->Prop} (h:Inv E G w S tk U) {n:Nm} {sz:Nat} {xs:List (List D)} {b o:Nat}
    (X:S n=some (.vec sz xs)) (L:G.mu n=some (b,o,sz)) :
    Inv E ⟨λb' B=>G.imm b' B\/b'=b,G.mu⟩ w (supd S n (some (.froz sz xs))) tk U /\
    Ext G w ⟨λb' B=>G.imm b' B\/b'=b,G.mu⟩ w:=by
  obtain ⟨b₁,o₁,sz₁,Z,k2,k3⟩:=h.box n _ X
  rw [L]at Z
  simp only [so_,Prod.mk.injEq]at Z
  obtain ⟨rfl,rfl,rfl⟩:=Z
  have I:Stands G w (.vec sz xs) b o sz:=k2
  have e:Ext G w ⟨λb' B=>G.imm b' B\/b'=b,G.mu⟩ w :=
    xB (λ_ _ h => .inl h) h.immB (λ_ _ h=>h) (λ_ _ => .inl rfl) (λb' B m h1 h2=>h2.resolve_right (λY=>(I.free rfl).2 m (Y ▸ h1)))
  refine⟨⟨h.ext.trans e,?_,h.frame,h.size,h.os,h.tape,h.output,?_,?_,h.tick,h.bound,?_,h.kn,h.dr⟩,e⟩
  · intro b' B hb
    rcases hb with hb|rfl
    · exact h.newI b' B hb
    · exact .inr (k3 rfl)
  · intro m A F
    by_cases hm:m=n
    · subst hm
      simp only [supd,if_true,so_]at F
      subst F
      refine⟨b,o,sz,L,?_,λJ=>by cases J⟩
      exact { sz := I.sz, even := I.even, room := I.room, cell := fun j hj => by
                obtain ⟨u,hu,h1,hr⟩:=I.cell j hj
                exact⟨u,hu,h1,hr.ext e⟩
              free:=λJ=>(by cases J),froz:=λ_ j hj => .inr rfl }
    · simp only [supd,hm,if_false]at F
      obtain ⟨b',B,N,h1,h2,Y⟩:=h.box m A F
      have R:b'≠b:=λJ=>by subst J;exact hm (h.one n m _ A b' o sz B N X F rfl L h1).symm
      exact⟨b',B,N,h1,h2.ext e (λ_=>rfl) (λ_ o'' J=>J.resolve_right (λhy=>R hy)),Y⟩
  · intro n1 m1 bx1 by1 b1 o1 sz1 o2 sz2 a1 a2 a3 a4 a5
    have get:∀{m A},supd S n (some (.froz sz xs)) m=some A->∃M,S m=some M/\(A.mut=true->M.mut=true):=by
      intro m A J
      by_cases hm:m=n
      · subst hm;exact⟨_,X,λ_=>rfl⟩
      · simp only [supd,hm,if_false]at J;exact⟨A,J,id⟩
    obtain ⟨W,c1,c2⟩:=get a1
    obtain ⟨O,c3,_⟩:=get a2
    exact h.one n1 m1 W O b1 o1 sz1 o2 sz2 c1 c3 (c2 a3) a4 a5
  · intro b' B hb
    rcases hb with hb|rfl
    · exact h.immB b' B hb
    · exact h.bound n b' o sz L
theorem Inv.wild {E:Env} {G:Gh} {w:World} {S:Store} {tk:Nat} {U:Nat->Prop} (h:Inv E G w S tk U) {n:Nm} {sz:Nat} {xs:List (List D)} {b o:Nat}
    (Y:S n=some (.vec sz xs)) (J:G.mu n=some (b,o,sz)) :
    Inv E ⟨λb' A=>G.imm b' A\/(b'=b/\A=bsize w b),G.mu⟩ w (supd S n none) tk U /\
    Ext G w ⟨λb' A=>G.imm b' A\/(b'=b/\A=bsize w b),G.mu⟩ w:=by
  obtain ⟨b₁,o₁,sz₁,X,k2,k3⟩:=h.box n _ Y
  rw [J]at X
  simp only [so_,Prod.mk.injEq]at X
  obtain ⟨rfl,rfl,rfl⟩:=X
  have R:Stands G w (.vec sz xs) b o sz:=k2
  have e:Ext G w ⟨λb' A=>G.imm b' A\/(b'=b/\A=bsize w b),G.mu⟩ w :=
    xB (λ_ _ h => .inl h) h.immB (λ_ _ h=>h) (λ_ _ => .inl rfl) (λb' A m h1 h2=>h2.resolve_right (λW=>(R.free rfl).2 m (W.1 ▸ h1)))
  have get:∀{m B},supd S n none m=some B->m≠n/\S m=some B:=by
    intro m B I
    by_cases hm:m=n
    · simp only [supd,hm,if_true]at I;cases I
    · simp only [supd,hm,if_false]at I;exact⟨hm,I⟩
  refine⟨⟨h.ext.trans e,?_,h.frame,h.size,h.os,h.tape,h.output,?_,?_,h.tick,h.bound,?_,h.kn,h.dr⟩,e⟩
  · intro b' A hb
    rcases hb with hb|⟨rfl,_⟩
    · exact h.newI b' A hb
    · exact .inr (k3 rfl)
  · intro m B F
    obtain ⟨hm,F⟩:=get F
    obtain ⟨b',A,L,h1,h2,W⟩:=h.box m B F
    have O:b'≠b:=λI=>by subst I;exact hm (h.one n m _ B b' o sz A L Y F rfl J h1).symm
    exact⟨b',A,L,h1,h2.ext e (λ_=>rfl) (λ_ o'' I=>I.resolve_right (λhy=>O hy.1)),W⟩
  · intro n1 m1 N M Z o1 sz1 o2 sz2 a1 a2 a3 a4 a5
    exact h.one n1 m1 N M Z o1 sz1 o2 sz2 (get a1).2 (get a2).2 a3 a4 a5
  · intro b' A hb
    rcases hb with hb|⟨rfl,_⟩
    · exact h.immB b' A hb
    · exact h.bound n b' o sz J
theorem RH {E:Env} {G:Gh} {w:World} {S:Store} {tk:Nat} {U:Nat->Prop} (h:Inv E G w S tk U) {n:Nm} {sz k len:Nat} {xs:List (List D)} {v:Value}
    (L:S n=some (.vec sz xs)) (N:RepV G w v (.vs n sz k len)) :
    ∃G',Inv E G' w (supd S n none) tk U/\Ext G w G' w/\RepD G'.imm w v (.wild sz len):=by
  obtain ⟨b,o,A,J,O,W⟩:=h.box n _ L
  have B:Stands G w (.vec sz xs) b o A:=O
  obtain rfl:A=sz:=B.sz
  obtain ⟨i,e⟩:=h.wild L J
  refine⟨_,i,e,?_⟩
  cases N with
  | vs0=>exact .wild0 _ _ _
  | vs _ _ cap hm hc hb =>
    rw [J]at hm
    simp only [so_,Prod.mk.injEq]at hm
    obtain ⟨rfl,rfl,_⟩:=hm
    have I:o+k*A+len*A<=bsize w b:=by
      have h1:(k+len)*A<=(k+cap)*A:=Nat.mul_le_mul_right _ (Nat.add_le_add_left hc k)
      rw [Nat.add_mul]at h1
      omega
    obtain ⟨arr,el,R⟩:=(B.free rfl).1
    refine .wild b (o+k*A) cap A len (bsize w b) ⟨arr,el,R⟩ (.inr ⟨rfl,rfl⟩) (λM h1 h2 F => ?_) I
    rcases F with F|⟨_,F⟩
    · exact (B.free rfl).2 M F
    · omega
end Go.Eng

/-
  THE ENGINE: what a load reads.
-/
namespace Go.Eng
set_option linter.unusedSectionVars false
variable [DM]
variable {P:Program}
theorem uR {t:TypeId} {s:Nat} (h:szT P t=some s):∃i d,P.info? t=some i/\i.size=s/\P.underlying t=some d:=by
 unfold szT at h
 split at h
 ·rename_i i d h1 h2
  simp only [so_]at h
  exact⟨i,d,h1,h,h2⟩
 ·cases h
theorem run_sizeOf {t:TypeId} {s:Nat} (h:szT P t=some s) (w:World):(sizeOf t).run P w = .ok s w:=by
 obtain ⟨i,d,h1,h2,_⟩:=uR h
 simp [sizeOf,typeInfo,h1,h2]
theorem aS {t:TypeId} {d:TypeDesc} (h:P.underlying t=some d) (w:World):(underlying t).run P w = .ok d w:=by
 simp [underlying,h]
theorem Cs {t:TypeId} {s:Nat} (h:szT P t=some s) (w:World):(isAgg t).run P w = .ok (cz P t) w:=by
 obtain ⟨i,d,_,_,o⟩:=uR h
 unfold isAgg cz
 simp only [Sem.run_bind,aS o,Result.andThen_ok,o]
 cases d <;> rfl
theorem addr_add (b o n:Nat):(⟨b,o,none⟩:Addr).add n=⟨b,o+n,none⟩:=by
 unfold Addr.add;split <;> simp_all
theorem wT {t:TypeId} {s:Nat} (h:szT P t=some s) (A:cz P t=true) (w:World) (b o:Nat) (us:List Value) (hl:us.length=s)
  (hc:∀j (hj:j<us.length),w.cell? ⟨b,o+j,none⟩=some us[j]):(loadVar t ⟨b,o,none⟩).run P w = .ok (.agg us.toArray) w:=by
 have h1:=run_loadCells_list (P:=P) w ⟨b,o,none⟩ us (λj v B=>by
  obtain ⟨hj,e⟩:=List.getElem?_eq_some_iff.1 B
  rw [addr_add,hc j hj,e])
 subst hl
 simp only [loadVar,Sem.run_bind,Cs h,Result.andThen_ok,A,if_true,run_sizeOf h,h1,Sem.run_pure]
theorem wM {t:TypeId} {s:Nat} (h:szT P t=some s) (A:cz P t=false) (w:World) (b o:Nat) (u:Value)
  (hc:w.cell? ⟨b,o,none⟩=some u):(loadVar t ⟨b,o,none⟩).run P w = .ok u w:=by
 simp only [loadVar,Sem.run_bind,Cs h,Result.andThen_ok,A,Bool.false_eq_true,if_false,run_load,hc]
theorem nA {α:Type} (f:Nat->α) (n j:Nat) (h:j<((List.range n).map f).length):((List.range n).map f)[j]=f j:=by simp
theorem RepD.aggOf {I:Nat->Nat->Prop} {w:World} (us:Nat->Value) (ds:List D) (h:∀j (hj:j<ds.length),RepD I w (us j) ds[j]) :
  RepD I w (.agg ((List.range ds.length).map us).toArray) (.agg ds) :=
 .agg _ ds (by simp) (λi h1 h2=>by rw [nA];exact h i h2)
theorem RepV.aggOf {G:Gh} {w:World} (us:Nat->Value) (vs:List V) (h:∀j (hj:j<vs.length),RepV G w (us j) vs[j]) :
  RepV G w (.agg ((List.range vs.length).map us).toArray) (.agg vs) :=
 .agg _ vs (by simp) (λi h1 h2=>by rw [nA];exact h i h2)
theorem Cq:∀{vs:List V} {ds:List D},F5 vs=some ds->vs=ds.map .d
 | [],ds,h=>by simp [F5]at h;subst h;rfl
 | v::vs,ds,h=>by
  cases v with
  | d x =>
   simp only [F5,Option.map_eq_some_iff]at h
   obtain ⟨o,h1,rfl⟩:=h
   rw [Cq h1];rfl
  | _=>simp [F5]at h
theorem RepV.d_inv {G:Gh} {w:World} {v:Value} {x:D} (h:RepV G w v (.d x)):RepD G.imm w v x:=by
 cases h with | d h=>exact h
theorem mJ {G:Gh} {w:World} {arr:List Value} {vs:List V} (hl:arr.length=vs.length)
  (h:∀i (h1:i<arr.length) (h2:i<vs.length),RepV G w arr[i] vs[i]):RepV G w (.agg arr.toArray) (mkAgg vs):=by
 unfold mkAgg
 split
 ·rename_i ds o
  have:=Cq o
  subst this
  exact .d (.agg arr ds (by simpa using hl) (λi h1 h2=>by
   have:=h i h1 (by simpa using h2)
   rw [List.getElem_map]at this
   exact this.d_inv))
 ·exact .agg arr vs hl h
theorem BV {G:Gh} {w:World} {t:TypeId} {size:Nat} (hsz:szT P t=some size) (b o:Nat) (cs:List D) (us:Nat->Value)
  (hc:∀j,j<cs.length->w.cell? ⟨b,o+j,none⟩=some (us j)) (h:∀j (hj:j<cs.length),RepD G.imm w (us j) cs[j]) {v:V}
  (A:rdD (cz P t) size cs=some v):∃u,(loadVar t ⟨b,o,none⟩).run P w = .ok u w/\RepV G w u v:=by
 unfold rdD at A
 cases ha:cz P t with
 | true =>
  simp only [ha,cond_true]at A
  cases hle:Nat.ble size cs.length with
  | false=>simp [hle]at A
  | true =>
   simp only [hle,cond_true,so_]at A
   subst A
   have B:size<=cs.length:=Nat.le_of_ble_eq_true hle
   refine⟨_,wT hsz ha w b o ((List.range size).map us) (by simp) (λj hj => ?_),.d ?_⟩
   ·simp only [List.length_map,List.length_range]at hj
    rw [nA,hc j (by omega)]
   ·have e:size=(cs.take size).length:=by simp;omega
    conv=>arg 3;rw [e]
    exact RepD.aggOf us _ (λj hj=>by
     simp only [List.length_take]at hj
     rw [List.getElem_take];exact h j (by omega))
 | false =>
  simp only [ha,cond_false]at A
  cases cs with
  | nil=>simp at A
  | cons c cs =>
   simp only [so_]at A
   subst A
   have F:=hc 0 (by simp)
   exact⟨us 0,wM hsz ha w b o (us 0) (by simpa using F),.d (h 0 (by simp))⟩
theorem OV {G:Gh} {w:World} {t:TypeId} {size:Nat} (hsz:szT P t=some size) (b o:Nat) (cs:List V) (us:Nat->Value)
  (hc:∀j,j<cs.length->w.cell? ⟨b,o+j,none⟩=some (us j)) (h:∀j (hj:j<cs.length),RepV G w (us j) cs[j]) {v:V}
  (A:rdV (cz P t) size cs=some v):∃u,(loadVar t ⟨b,o,none⟩).run P w = .ok u w/\RepV G w u v:=by
 unfold rdV at A
 cases ha:cz P t with
 | true =>
  simp only [ha,cond_true]at A
  cases hle:Nat.ble size cs.length with
  | false=>simp [hle]at A
  | true =>
   simp only [hle,cond_true,so_]at A
   subst A
   have B:size<=cs.length:=Nat.le_of_ble_eq_true hle
   refine⟨_,wT hsz ha w b o ((List.range size).map us) (by simp) (λj hj => ?_),mJ (by simp;omega) (λi h1 h2 => ?_)⟩
   ·simp only [List.length_map,List.length_range]at hj
    rw [nA,hc j (by omega)]
   ·rw [nA,List.getElem_take]
    simp at h1
    exact h i (by omega)
 | false =>
  simp only [ha,cond_false]at A
  cases cs with
  | nil=>simp at A
  | cons c cs =>
   simp only [so_]at A
   subst A
   have F:=hc 0 (by simp)
   exact⟨us 0,wM hsz ha w b o (us 0) (by simpa using F),h 0 (by simp)⟩
theorem flat_get {α:Type} (sz:Nat):∀(xs:List (List α)),(∀x∈xs,x.length=sz)->∀(i j:Nat) (hi:i<xs.length) (hj:j<xs[i].length),
  ∃h:i*sz+j<xs.flatten.length,xs.flatten[i*sz+j]=xs[i][j]
 | [],_,i,_,hi,_=>absurd hi (Nat.not_lt_zero i)
 | x::xs,he,0,j,hi,hj=>by
  have o:j<x.length:=hj
  refine⟨by simp;omega,?_⟩
  simp only [List.flatten_cons,Nat.zero_mul,Nat.zero_add]
  rw [List.getElem_append_left o];rfl
 | x::xs,he,i+1,j,hi,hj=>by
  have F:x.length=sz:=he x (by simp)
  have A:i<xs.length:=by simpa using hi
  have o:j<xs[i].length:=by simpa using hj
  obtain ⟨h1,h2⟩:=flat_get sz xs (λy B=>he y (by simp [B])) i j A o
  have e:(i+1)*sz+j=x.length+(i*sz+j):=by rw [Nat.succ_mul];omega
  refine⟨by simp only [List.flatten_cons,List.length_append];omega,?_⟩
  simp only [List.flatten_cons,e]
  rw [List.getElem_append_right (by omega)]
  simp only [Nat.add_sub_cancel_left]
  rw [h2];rfl
theorem qf {α:Type} (sz:Nat):∀(xs:List (List α)),(∀x∈xs,x.length=sz)->xs.flatten.length=xs.length*sz
 | [],_=>by simp
 | x::xs,he=>by
  rw [List.flatten_cons,List.length_append,he x (by simp),qf sz xs (λy h=>he y (by simp [h])),List.length_cons,Nat.succ_mul,Nat.add_comm]
theorem Stands.elem {G:Gh} {w:World} {bx:Box} {xs:List (List D)} {b o sz:Nat} (h:Stands G w bx b o sz)
  (hb:bx = .vec sz xs\/bx = .froz sz xs) (i:Nat) (hi:i<xs.length) :
  xs[i].length=sz/\∃us:Nat->Value,(∀j,j<xs[i].length->w.cell? ⟨b,o+i*sz+j,none⟩=some (us j)/\(us j).oneCell'=true)/\∀j (hj:j<xs[i].length),RepD G.imm w (us j) xs[i][j]:=by
 have F:bx.all=(xs.map λx=>x.map V.d).flatten:=by rcases hb with rfl | rfl <;> rfl
 have B:∀x∈xs,x.length=sz:=by rcases hb with rfl | rfl <;> exact h.even
 refine⟨B _ (List.getElem_mem hi),?_⟩
 have J:∀x∈xs.map (λx=>x.map V.d),x.length=sz:=by
  intro x M
  obtain ⟨y,O,rfl⟩:=List.mem_map.1 M
  rw [List.length_map];exact B y O
 have A:∀j (hj:j<xs[i].length),∃u,(w.cell? ⟨b,o+i*sz+j,none⟩=some u/\u.oneCell'=true)/\RepD G.imm w u xs[i][j]:=by
  intro j hj
  obtain ⟨h1,h2⟩:=flat_get sz _ J i j (by simpa using hi) (by simpa using hj)
  have I:i*sz+j<bx.all.length:=by rw [F];exact h1
  obtain ⟨u,N,ho,L⟩:=h.cell (i*sz+j) I
  have e:bx.all[i*sz+j]=V.d xs[i][j]:=by
   have:bx.all[i*sz+j]? = some (V.d xs[i][j]):=by
    rw [F,List.getElem?_eq_getElem h1,h2];simp
   rw [List.getElem?_eq_getElem I]at this
   exact Option.some.inj this
  rw [e]at L
  exact⟨u,⟨by rw [show o+i*sz+j=o+(i*sz+j) by omega];exact N,ho⟩,L.d_inv⟩
 refine⟨λj=>if hj:j<xs[i].length then (A j hj).choose else undef,λj hj => ?_,λj hj => ?_⟩
 ·simp only [hj,dif_pos];exact (A j hj).choose_spec.1
 ·simp only [hj,dif_pos];exact (A j hj).choose_spec.2
theorem Stands.run {G:Gh} {w:World} {cs:List V} {b o sz s:Nat} (h:Stands G w (.cells s cs) b o sz) :
  ∃us:Nat->Value,(∀j,j<cs.length->w.cell? ⟨b,o+j,none⟩=some (us j))/\∀j (hj:j<cs.length),RepV G w (us j) cs[j]:=by
 have A:∀j (hj:j<cs.length),∃u,w.cell? ⟨b,o+j,none⟩=some u/\RepV G w u cs[j]:=λj hj=>let ⟨u,a,_,c⟩:=h.cell j hj;⟨u,a,c⟩
 refine⟨λj=>if hj:j<cs.length then (A j hj).choose else undef,λj hj => ?_,λj hj => ?_⟩
 ·simp only [hj,dif_pos];exact (A j hj).choose_spec.1
 ·simp only [hj,dif_pos];exact (A j hj).choose_spec.2
end Go.Eng

/-
  THE ENGINE: each operation does on memory what its computed effect says: loads, stores, addresses, arithmetic.
-/
namespace Go.Eng
set_option linter.unusedSectionVars false
variable [DM]
variable {P:Program}
theorem Inv.mono {E:Env} {G:Gh} {w:World} {S:Store} {tk:Nat} {U U':Nat->Prop} (h:Inv E G w S tk U) (A:∀n,U n->U' n):Inv E G w S tk U' :=
  { h with tick:=λn x o=>(h.tick n x o).imp id (fun⟨a,c⟩=>⟨a,A _ c⟩) }
def dH (P:Program) (E:Env) (s:Sem Next) (dst:Option Nat) (G:Gh) (w:World) (S:Store) (tk:Nat) (U:Nat->Prop) (A:Eff):Prop :=
  ∃h u w' G',s.run P w = .ok h w'/\(h = .value u\/(h = .skip/\u=undef))/\Ext G w G' w' /\
    Inv E G' w' (dn S A.upd) tk (λn=>U n\/dst=some (n % 100000))/\RepV G' w' u A.val
section
variable {E:Env} {G:Gh} {w:World} {S:Store} {tk:Nat} {U:Nat->Prop} {dst:Option Nat}
theorem dH.still (h:Inv E G w S tk U) {s:Sem Value} {u:Value} {v:V} {req:List (Nm×Box)} (o:s.run P w = .ok u w) (A:RepV G w u v) :
    dH P E (do pure (.value (<- s))) dst G w S tk U ⟨req,[],v⟩ :=
  ⟨.value u,u,w,G,by simp [o],.inl rfl,Ext.refl G w,h.mono (λ_ x => .inl x),A⟩
theorem dW {v:V} {A:Eff} (h:fq v=some A):A=⟨[],[],v⟩:=by
  simp [fq]at h;exact h.symm
theorem Inv.stands (h:Inv E G w S tk U) {n:Nm} {bx:Box} (B:S n=some bx) {b o sz:Nat} (A:G.mu n=some (b,o,sz)):StandsBox G w bx b o sz/\(bx.mut=true->E.w.heap.size<=b\/E.M b):=by
  obtain ⟨b',J,F,h1,h2,I⟩:=h.box n bx B
  rw [A]at h1
  simp only [so_,Prod.mk.injEq]at h1
  obtain ⟨rfl,rfl,rfl⟩:=h1
  exact⟨h2,I⟩
theorem RepV.ref_inv {u:Value} {n:Nm} {i j:Nat} (h:RepV G w u (.ref n i j)):∃b o sz,G.mu n=some (b,o,sz)/\u = .pointer (some ⟨b,o+i*sz+j,Option.none⟩):=by
  cases h with | ref _ _ h=>exact⟨_,_,_,h,rfl⟩
theorem G8 (h:Inv E G w S tk U) {t:TypeId} {u:Value} {a:V} {A:Eff} (Y:RepV G w u a) (hf:rH P t S a=some A) :
    ∃X x,u = .pointer (some X)/\(loadVar t X).run P w = .ok x w/\RepV G w x A.val/\A.upd=[]:=by
  unfold rH at hf
  split at hf
  · cases hf
  rename_i size hsz
  split at hf
  · rename_i cs
    simp only [Option.bind_eq_some_iff]at hf
    obtain ⟨v,N,hp⟩:=hf
    rw [dW hp]
    cases Y.d_inv with
    | ptr _ _ _ us hI hc Z =>
      obtain ⟨x,L,I⟩:=BV (G:=G) hsz _ _ cs us hc Z N
      exact⟨_,x,rfl,L,I,rfl⟩
  · rename_i n i j
    obtain ⟨b,o,B,M,rfl⟩:=Y.ref_inv
    split at hf
    · rename_i sz xs W
      split at hf
      · rename_i cs O
        simp only [Option.map_eq_some_iff]at hf
        obtain ⟨v,N,rfl⟩:=hf
        have F:Stands G w (.vec sz xs) b o B:=(h.stands W M).1
        have R:B=sz:=F.sz
        subst R
        obtain ⟨hi,rfl⟩:=List.getElem?_eq_some_iff.1 O
        obtain ⟨hl,us,h1,h2⟩:=F.elem (.inl rfl) i hi
        obtain ⟨x,L,I⟩:=BV (G:=G) hsz b (o+i*B+j) (xs[i].drop j) (λk=>us (j+k))
          (λk J=>by simp only [List.length_drop]at J;rw [Nat.add_assoc (o+i*B)];exact (h1 (j+k) (by omega)).1)
          (λk J=>by rw [List.getElem_drop];exact h2 (j+k) (by simp only [List.length_drop]at J;omega)) N
        exact⟨_,x,rfl,L,I,rfl⟩
      · cases hf
    · rename_i sz xs W
      split at hf
      · rename_i cs O
        simp only [Option.map_eq_some_iff]at hf
        obtain ⟨v,N,rfl⟩:=hf
        have F:Stands G w (.froz sz xs) b o B:=(h.stands W M).1
        have R:B=sz:=F.sz
        subst R
        obtain ⟨hi,rfl⟩:=List.getElem?_eq_some_iff.1 O
        obtain ⟨hl,us,h1,h2⟩:=F.elem (.inr rfl) i hi
        obtain ⟨x,L,I⟩:=BV (G:=G) hsz b (o+i*B+j) (xs[i].drop j) (λk=>us (j+k))
          (λk J=>by simp only [List.length_drop]at J;rw [Nat.add_assoc (o+i*B)];exact (h1 (j+k) (by omega)).1)
          (λk J=>by rw [List.getElem_drop];exact h2 (j+k) (by simp only [List.length_drop]at J;omega)) N
        exact⟨_,x,rfl,L,I,rfl⟩
      · cases hf
    · rename_i sz cs W
      simp only [Option.map_eq_some_iff]at hf
      obtain ⟨v,N,rfl⟩:=hf
      have F:Stands G w (.cells sz cs) b o B:=(h.stands W M).1
      have R:B=sz:=F.sz
      subst R
      obtain ⟨us,h1,h2⟩:=F.run
      obtain ⟨x,L,I⟩:=OV (G:=G) hsz b (o+i*B+j) (cs.drop (i*B+j)) (λk=>us (i*B+j+k))
        (λk J=>by simp only [List.length_drop]at J;rw [show o+i*B+j+k=o+(i*B+j+k) by omega];exact h1 (i*B+j+k) (by omega))
        (λk J=>by rw [List.getElem_drop];exact h2 (i*B+j+k) (by simp only [List.length_drop]at J;omega)) N
      exact⟨_,x,rfl,L,I,rfl⟩
    · cases hf
  · cases hf
theorem Qx (h:Inv E G w S tk U) {t:TypeId} {u:Value} {a:V} {A:Eff} (o:RepV G w u a) (hf:rH P t S a=some A) :
    dH P E (do pure (.value (<- Instr.loadAt t u))) dst G w S tk U A:=by
  obtain ⟨B,x,rfl,h1,h2,F⟩:=G8 h o hf
  have:=dH.still (dst:=dst) (req:=A.req) h (s:=Instr.loadAt t (.pointer (some B))) (by simpa [Instr.loadAt,Instr.sureAddr]using h1) h2
  rw [<- F]at this
  exact this
theorem RepD.cells_one {I:Nat->Nat->Prop} {u:Value} {x:D} (h:RepD I w u x) (o:∀cs,x ≠ .agg cs):u.oneCell'=true:=by
  cases h with
  | agg arr ds hl h=>exact absurd rfl (o ds)
  | _=>rfl
theorem RepV.oneCell {u:Value} {x:V} (h:RepV G w u x) (ho:iM x=true):u.oneCell'=true:=by
  cases h with
  | d h=>exact h.cells_one (λcs e=>by subst e;simp [iM]at ho)
  | agg | tup | none | any=>simp [iM]at ho
  | _=>rfl
theorem Gx {u:Value} (h:u.oneCell'=true):u.cells = #[u]:=by
  cases u <;> first | rfl | simp [Value.oneCell']at h
theorem RepV.cells {u:Value} {x:V} (h:RepV G w u x) (ho:(aX x).all iM=true) :
    u.cells.toList.length=(aX x).length/\∀i (h1:i<u.cells.toList.length) (h2:i<(aX x).length),RepV G w u.cells.toList[i] (aX x)[i]:=by
  have base:∀{u:Value} {x:V},RepV G w u x->aX x=[x]->iM x=true ->
      u.cells.toList.length=(aX x).length/\∀i (h1:i<u.cells.toList.length) (h2:i<(aX x).length),RepV G w u.cells.toList[i] (aX x)[i]:=by
    intro u x h e h1
    have A:=Gx (h.oneCell h1)
    refine⟨by rw [e,A];rfl,λi a c => ?_⟩
    have hi:i=0:=by rw [e]at c;simp at c;exact c
    subst hi
    simp only [e,A]
    exact h
  cases x with
  | d x =>
    cases x with
    | agg ds =>
      cases h.d_inv with
      | agg arr _ hl o =>
        refine⟨by simpa [Value.cells,aX]using hl,λi a c => ?_⟩
        simp only [Value.cells,aX,List.getElem_map]
        exact .d (o i (by simpa [Value.cells]using a) (by simpa [aX]using c))
    | int k n=>exact base h rfl rfl
    | bool b=>exact base h rfl rfl
    | str s=>exact base h rfl rfl
    | sl xs=>exact base h rfl rfl
    | ptr cs=>exact base h rfl rfl
    | nilp=>exact base h rfl rfl
    | wild sz len=>exact base h rfl rfl
    | wildp k=>exact base h rfl rfl
    | nils=>exact base h rfl rfl
  | agg vs =>
    cases h with
    | agg arr _ hl o=>exact⟨by simpa [Value.cells,aX]using hl,λi a c=>o i (by simpa [Value.cells]using a) (by simpa [aX]using c)⟩
  | tup vs=>simp [aX,iM]at ho
  | none=>simp [aX,iM]at ho
  | any=>simp [aX,iM]at ho
  | nil=>exact base h rfl rfl
  | nilm=>exact base h rfl rfl
  | nili=>exact base h rfl rfl
  | ref n i j=>exact base h rfl rfl
  | vs n sz k len=>exact base h rfl rfl
  | fn f caps=>exact base h rfl rfl
  | map n=>exact base h rfl rfl
theorem RepV.cells_ones {u:Value} {x:V} (h:RepV G w u x) (ho:(aX x).all iM=true):∀c∈u.cells.toList,c.oneCell'=true:=by
  intro c hc
  obtain ⟨i,hi,rfl⟩:=List.getElem_of_mem hc
  obtain ⟨h1,h2⟩:=h.cells ho
  exact (h2 i hi (h1 ▸ hi)).oneCell (List.all_eq_true.1 ho _ (List.getElem_mem _))
theorem tV (w:World) (g:Nat) (cs cur:Array Value) (t:TypeId) (o:Nat×Nat) (h:w.heap[g]? = some (.cells cur t o)) :
    (w.setRow g cs).heap[g]? = some (.cells cs t o):=by
  simp only [World.setRow,Array.getElem?_modify,if_true,h,Option.map_some]
theorem setRow_other (w:World) (g b:Nat) (cs:Array Value) (h:b≠g):(w.setRow g cs).heap[b]? = w.heap[b]? := by
  simp only [World.setRow,Array.getElem?_modify]
  rw [if_neg (λe=>h e.symm)]
theorem setRow_size (w:World) (g:Nat) (cs:Array Value):(w.setRow g cs).heap.size=w.heap.size:=by
  simp [World.setRow]
theorem cell_of_row {w:World} {b:Nat} {arr:Array Value} {t:TypeId} {A:Nat×Nat} (h:w.heap[b]? = some (.cells arr t A)) (o:Nat) :
    w.cell? ⟨b,o,none⟩=arr[o]? := by
  simp [World.cell?,h]
theorem aV {w:World} {b:Nat} {arr:Array Value} {t:TypeId} {o:Nat×Nat} (h:w.heap[b]? = some (.cells arr t o)):bsize w b=arr.size:=by
  simp [bsize,h]
theorem bZ {α:Type} (cs new:List α) (o:Nat) (h:o+new.length<=cs.length):(splice cs new o).length=cs.length:=by
  simp [splice];omega
theorem og {α:Type} (cs new:List α) (o:Nat) (h:o+new.length<=cs.length) (i:Nat) :
    (splice cs new o)[i]? = if o<=i/\i<o+new.length then new[i-o]? else cs[i]? := by
  have ht:(cs.take o).length=o:=by simp;omega
  unfold splice
  by_cases h1:i<o
  · rw [if_neg (by omega),List.getElem?_append_left (by simp;omega),List.getElem?_append_left (by omega),List.getElem?_take_of_lt h1]
  · by_cases h2:i<o+new.length
    · rw [if_pos ⟨by omega,h2⟩,List.getElem?_append_left (by simp;omega),List.getElem?_append_right (by omega),ht]
    · rw [if_neg (by omega),List.getElem?_append_right (by simp;omega),List.getElem?_drop]
      congr 1
      simp only [List.length_append,ht];omega
theorem ma {α:Type} (cs new:List α) (o:Nat) (h:o+new.length<=cs.length) (i:Nat) (hi:i<(splice cs new o).length) :
    (splice cs new o)[i]=if h1:o<=i/\i<o+new.length then new[i-o]'(by omega)else cs[i]'(by rw [bZ cs new o h]at hi;exact hi):=by
  have A:=og cs new o h i
  rw [List.getElem?_eq_getElem hi]at A
  split
  · rename_i h1
    rw [if_pos h1,List.getElem?_eq_getElem (by omega)]at A
    exact Option.some.inj A
  · rename_i h1
    rw [if_neg h1,List.getElem?_eq_getElem (by rw [bZ cs new o h]at hi;exact hi)]at A
    exact Option.some.inj A
theorem C9 {w w':World} {bx bx':Box} {b o off:Nat} (h:celB w bx b o) (B:celK bx bx' off):celB w' bx' b o:=by
  cases bx' with
  | cells s cs =>
    obtain ⟨⟨A,rfl⟩,hs⟩:=B
    exact⟨h.1,λh2=>absurd hs (Nat.not_lt_of_le h2)⟩
  | _=>exact trivial
theorem H9 (h:Inv E G w S tk U) {n:Nm} {bx bx':Box} {b o sz:Nat} (hS:S n=some bx) (W:bx.mut=true) (M:bx.row=true) (hmu:G.mu n=some (b,o,sz))
    {t:TypeId} {size:Nat} (hsz:szT P t=some size) {u:Value} (x:List V) (off:Nat)
    (hul:u.cells.toList.length=x.length) (hur:∀i (h1:i<u.cells.toList.length) (h2:i<x.length),RepV G w u.cells.toList[i] x[i])
    (huo:∀c∈u.cells.toList,c.oneCell'=true)
    (hxs:x.length=size) (hfit:off+size<=bx.all.length) (I:bx'.all=splice bx.all x off) (hsz':bx'.sz=bx.sz) (hev:bx'.even) (X:bx'.mut=true) (F:bx'.row=true) (hkin:celK bx bx' off:=by exact trivial) :
    ∃w',(Instr.storeAt t (.pointer (some ⟨b,o+off,none⟩)) u).run P w = .ok () w'/\Inv E G w' (supd S n (some bx')) tk U/\Ext G w G w':=by
  have hst0:=(h.stands hS hmu).1
  have J:Stands G w bx b o sz:=by
    cases bx with
    | map es=>cases M
    | pmap es=>cases M
    | iter c l=>cases M
    | _=>exact hst0
  obtain ⟨⟨arr,elem,B⟩,N⟩:=J.free W
  have hbs:=aV B
  have R:=J.room
  rw [hbs]at R
  have hcl:u.cells.size=size:=by rw [<- hxs,<- hul];simp
  have hrun:=run_storeCells_at P b (o+off) elem u.cells.toList 0 arr w B (by simp;omega) huo
  refine⟨w.setRow b (arr.toList.take (o+off)++u.cells.toList++arr.toList.drop (o+off+u.cells.toList.length)).toArray,?_,?_⟩
  · have hrun':(storeCells ⟨b,o+off,none⟩ u.cells.toList).run P w = .ok () (w.setRow b (arr.toList.take (o+off)++u.cells.toList++arr.toList.drop (o+off+u.cells.toList.length)).toArray):=hrun
    simp only [Instr.storeAt,Instr.sureAddr,Sem.run_bind,Sem.run_pure,Result.andThen_ok,storeVar,run_sizeOf hsz,hcl,ne_eq,not_true_eq_false,if_false,hrun']
  · have L : (w.setRow b (arr.toList.take (o + off) ++ u.cells.toList ++ arr.toList.drop (o + off + u.cells.toList.length)).toArray).heap[b]? =
        some (.cells (splice arr.toList u.cells.toList (o+off)).toArray elem (0,0)):=tV w b _ arr elem (0,0) B
    have A:o+off+u.cells.toList.length<=arr.toList.length:=by rw [hul,hxs];simp;omega
    refine h.write hS W hmu (λb' hb'=>setRow_other w b b' _ hb') (setRow_size w b _) ?_ (λe he=>by rw [fw B]at he;rw [fw L];exact he) N rfl rfl rfl bx' (λe => ?_)
    · rw [hbs,aV L];simp [bZ _ _ _ A]
    · have hs:Stands G (w.setRow b (arr.toList.take (o+off)++u.cells.toList++arr.toList.drop (o+off+u.cells.toList.length)).toArray) bx' b o sz :=
        { sz:=by rw [hsz'];exact J.sz
          even:=hev
          room:=by rw [I,bZ _ _ _ (by omega),aV L,List.size_toArray,bZ _ _ _ A];simpa using R
          cell:=λj hj=>by
            have hj0:j<bx.all.length:=by rw [I,bZ _ _ _ (by omega)]at hj;exact hj
            have hlen:o+j<(splice arr.toList u.cells.toList (o+off)).length:=by rw [bZ _ _ _ A];simp;omega
            refine⟨(splice arr.toList u.cells.toList (o+off))[o+j],?_,?_,?_⟩
            · rw [cell_of_row L];simp [hlen]
            · rw [ma _ _ _ A]
              split
              · exact huo _ (List.getElem_mem _)
              · rename_i Y
                obtain ⟨v,Z,h1,hr⟩:=J.cell j hj0
                rw [cell_of_row B]at Z
                have O:o+j<arr.size:=by omega
                rw [Array.getElem?_eq_getElem O,so_]at Z
                have:arr.toList[o+j]=v:=by rw [<- Z];simp
                rw [this];exact h1
            · rw [ma _ _ _ A]
              simp only [I]
              rw [ma _ _ _ (by omega)]
              by_cases Y:off<=j/\j<off+x.length
              · rw [dif_pos Y,dif_pos (by omega)]
                have:=(hur (j-off) (by omega) (by omega)).ext e
                simpa [show o+j-(o+off)=j-off by omega]using this
              · rw [dif_neg Y,dif_neg (by omega)]
                obtain ⟨v,Z,_,hr⟩:=J.cell j hj0
                rw [cell_of_row B]at Z
                have O:o+j<arr.size:=by omega
                rw [Array.getElem?_eq_getElem O,so_]at Z
                have:arr.toList[o+j]=v:=by rw [<- Z];simp
                rw [this]
                exact hr.ext e
          free:=λ_=>⟨⟨_,_,L⟩,N⟩
          froz:=λhx=>(by rw [X]at hx;cases hx)
          cel:=C9 J.cel hkin }
      cases bx' with
      | map es=>cases F
      | pmap es=>cases F
      | iter c l=>cases F
      | _=>exact hs
theorem yJ:∀{vs:List V} {ds:List D},qO vs=some ds->ds.length=vs.length
  | [],ds,h=>by simp [qO]at h;subst h;rfl
  | v::vs,ds,h=>by
    cases v with
    | d x =>
      simp only [qO,Option.map_eq_some_iff]at h
      obtain ⟨o,h1,rfl⟩:=h
      simp [yJ h1]
    | nil =>
      simp only [qO,Option.map_eq_some_iff]at h
      obtain ⟨o,h1,rfl⟩:=h
      simp [yJ h1]
    | _=>simp [qO]at h
theorem yw:∀{vs:List V} {ds:List D} (_:qO vs=some ds) (i:Nat) (h1:i<vs.length) (h2:i<ds.length) (u:Value),RepV G w u vs[i]->RepD G.imm w u ds[i]
  | [],_,_,i,h1,_,_,_=>absurd h1 (Nat.not_lt_zero i)
  | v::vs,ds,h,i,h1,h2,u,o=>by
    cases v with
    | d x =>
      simp only [qO,Option.map_eq_some_iff]at h
      obtain ⟨A,F,rfl⟩:=h
      cases i with
      | zero=>exact o.d_inv
      | succ i=>exact yw F i (by simpa using h1) (by simpa using h2) u o
    | nil =>
      simp only [qO,Option.map_eq_some_iff]at h
      obtain ⟨A,F,rfl⟩:=h
      cases i with
      | zero =>
        have B:RepV G w u .nil:=o
        cases B with
        | nil a=>exact .sl0 _ _
      | succ i=>exact yw F i (by simpa using h1) (by simpa using h2) u o
    | _=>simp [qO]at h
theorem L8 {α β:Type} (f:α->β) (cs new:List α) (o:Nat):(splice cs new o).map f=splice (cs.map f) (new.map f) o:=by
  simp [splice,List.map_drop,List.map_take]
theorem CQ {α:Type} (sz:Nat):∀(xs:List (List α)),(∀x∈xs,x.length=sz)->∀(i j:Nat) (new:List α) (hi:i<xs.length),j+new.length<=xs[i].length ->
    (xs.set i (splice xs[i] new j)).flatten=splice xs.flatten new (i*sz+j)
  | [],_,i,_,_,hi,_=>absurd hi (Nat.not_lt_zero i)
  | x::xs,he,0,j,new,hi,hj=>by
    have h:j+new.length<=x.length:=hj
    simp only [List.set_cons_zero,List.flatten_cons,Nat.zero_mul,Nat.zero_add,splice,List.getElem_cons_zero]
    rw [List.take_append_of_le_length (by omega),List.drop_append_of_le_length (by omega)]
    simp
  | x::xs,he,i+1,j,new,hi,hj=>by
    have F:x.length=sz:=he x (by simp)
    have o:i<xs.length:=by simpa using hi
    have h:j+new.length<=xs[i].length:=by simpa using hj
    have A:=CQ sz xs (λy B=>he y (by simp [B])) i j new o h
    simp only [List.set_cons_succ,List.flatten_cons,List.getElem_cons_succ]
    rw [A]
    have e:(i+1)*sz+j=x.length+(i*sz+j):=by rw [Nat.succ_mul];omega
    unfold splice
    rw [e,List.take_append,List.drop_append]
    have e1:List.take (x.length+(i*sz+j)) x=x:=List.take_of_length_le (by omega)
    have e2:List.drop (x.length+(i*sz+j)+new.length) x=[]:=List.drop_eq_nil_of_le (by omega)
    rw [e1,e2]
    simp only [Nat.add_sub_cancel_left,List.append_assoc,List.nil_append]
    congr 4
    omega
theorem PR {α:Type} {sz:Nat} {xs:List (List α)} (he:∀x∈xs,x.length=sz) (i:Nat) (y:List α) (A:y.length=sz):∀x∈xs.set i y,x.length=sz:=by
  intro x o
  rcases List.mem_or_eq_of_mem_set o with h|h
  · exact he x h
  · rw [h,A]
theorem M0 (h:Inv E G w S tk U) {b m off:Nat} {arr:Array Value} {elem:TypeId} (F:w.heap[b]? = some (.cells arr elem (0,0))) (hm:G.imm b m) (vs:List Value) (hne:0<vs.length) (J:off+vs.length<=arr.toList.length)
    (hf:∀o,off<=o->o<off+vs.length->¬G.imm b o) :
    Inv E G (w.setRow b (splice arr.toList vs off).toArray) S tk U/\Ext G w G (w.setRow b (splice arr.toList vs off).toArray):=by
  have I:(w.setRow b (splice arr.toList vs off).toArray).heap[b]? = some (.cells (splice arr.toList vs off).toArray elem (0,0)):=tV w b _ arr elem (0,0) F
  have A:∀b',b'≠b->(w.setRow b (splice arr.toList vs off).toArray).heap[b']? = w.heap[b']? := λb' O=>setRow_other w b b' _ O
  have W:bsize (w.setRow b (splice arr.toList vs off).toArray) b=bsize w b:=by
    rw [aV I,aV F];simp [bZ _ _ _ J]
  have e:Ext G w G (w.setRow b (splice arr.toList vs off).toArray) :=
    { imm:=λ_ _ h=>h
      cell:=λb' o hb=>by
        by_cases B:b'=b
        · subst B
          rw [cell_of_row I,cell_of_row F,List.getElem?_toArray,og _ _ _ J,if_neg (λM=>hf o M.1 M.2 hb),Array.getElem?_toList]
        · exact zM (A b' B) o
      mu:=λ_ _ h=>h
      size:=λb'=>by
        by_cases B:b'=b
        · subst B;rw [W];exact Nat.le_refl _
        · rw [wE (A b' B)];exact Nat.le_refl _
      elem:=λb' e he=>by
        by_cases B:b'=b
        · subst B;rw [fw F]at he;rw [fw I];exact he
        · rw [xG (A b' B)];exact he
      map:=λb' Y clk _ e=>by
        by_cases B:b'=b
        · subst B;rw [F]at e;cases e
        · rw [A b' B];exact e
      still:=λ_ _ _ _ h=>h
      thaw:=λb' m _ ht=>by
        by_cases B:b'=b
        · subst B;exact⟨_,_,I⟩
        · exact Eu (A b' B) ht }
  refine⟨{ h with ext:=h.ext.trans e,frame:=λb' hb X hW => ?_,size:=by rw [setRow_size];exact h.size,os:=h.os,tape:=h.tape,output:=h.output,box:=λn bx hS => ?_,bound:=λn b' o sz B=>by rw [setRow_size];exact h.bound n b' o sz B,immB:=λb' o hb=>by rw [setRow_size];exact h.immB b' o hb,dr:=h.dr },e⟩
  · by_cases B:b'=b
    · subst B
      exfalso
      have N:=h.frame b' hb X hW
      rcases h.newI b' m hm with k|k|k
      · refine hW ⟨⟨m,k⟩,off,?_,λk2=>hf off (Nat.le_refl _) (by omega) (h.ext.imm _ _ k2)⟩
        rw [<- wE N,aV F]
        have:arr.toList.length=arr.size:=by simp
        omega
      · omega
      · exact X k
    · rw [A b' B];exact h.frame b' hb X hW
  · obtain ⟨b',o',R,h1,h2,Z⟩:=h.box n bx hS
    refine⟨b',o',R,h1,h2.ext e (λL=>A b' (λB => ?_)) (λ_ _ h=>h),Z⟩
    subst B
    exact h2.noimm L m hm
theorem OT (h:Inv E G w S tk U) {t:TypeId} {u v:Value} {a x:V} {A:Eff} (ha:RepV G w u a) (hx:RepV G w v x) (hf:vR P t S a x=some A) :
    dH P E (do Instr.storeAt t u v;pure .skip) dst G w S tk U A:=by
  have fin:∀{bx':Box} {n:Nm} {req:List (Nm×Box)},(∃w',(Instr.storeAt t u v).run P w = .ok () w'/\Inv E G w' (supd S n (some bx')) tk U/\Ext G w G w') ->
      dH P E (do Instr.storeAt t u v;pure .skip) dst G w S tk U ⟨req,[(n,some bx')],.none⟩:=by
    rintro bx' n req ⟨w',h1,h2,L⟩
    exact⟨.skip,undef,w',G,by simp [h1],.inr ⟨rfl,rfl⟩,L,h2.mono (λ_ x => .inl x),.none⟩
  unfold vR at hf
  split at hf
  · cases hf
  rename_i size hsz
  split at hf
  · rename_i n i j
    obtain ⟨b,o,B,M,rfl⟩:=ha.ref_inv
    split at hf
    · rename_i sz cs hS
      have N:Stands G w (.cells sz cs) b o B:=(h.stands hS M).1
      have X:B=sz:=N.sz
      subst X
      cases hc:(Nat.beq (aX x).length size&&Nat.ble (i*B+j+size) cs.length&&(aX x).all iM&&Nat.blt B 1048576)with
      | false=>simp only [hc,cond_false]at hf;cases hf
      | true =>
        simp only [hc,cond_true,so_]at hf
        subst hf
        simp only [Bool.and_eq_true]at hc
        obtain ⟨⟨⟨h1,h2⟩,L⟩,h4⟩:=hc
        have I:=Nat.eq_of_beq_eq_true h1
        have W:=Nat.le_of_ble_eq_true h2
        obtain ⟨Z,c2⟩:=hx.cells L
        refine fin ?_
        rw [show o+i*B+j=o+(i*B+j) by omega]
        have hkin:celK (.cells B cs) (.cells B (splice cs (aX x) (i*B+j))) (i*B+j):=⟨⟨cs,rfl⟩,by simpa [Nat.blt_eq]using h4⟩
        exact H9 h hS rfl rfl M hsz (aX x) (i*B+j) Z c2 (hx.cells_ones L) I W rfl rfl trivial rfl rfl hkin
    · rename_i sz xs hS
      have N:Stands G w (.vec sz xs) b o B:=(h.stands hS M).1
      have X:B=sz:=N.sz
      subst X
      split at hf
      · rename_i cs new hcs O
        cases hc:(Nat.beq new.length size&&Nat.ble (j+size) cs.length&&(aX x).all iM)with
        | false=>simp only [hc,cond_false]at hf;cases hf
        | true =>
          simp only [hc,cond_true,so_]at hf
          subst hf
          simp only [Bool.and_eq_true]at hc
          obtain ⟨⟨h1,h2⟩,L⟩:=hc
          have I:=Nat.eq_of_beq_eq_true h1
          have W:=Nat.le_of_ble_eq_true h2
          obtain ⟨hi,rfl⟩:=List.getElem?_eq_some_iff.1 hcs
          obtain ⟨Z,c2⟩:=hx.cells L
          have hlen:=yJ O
          have F:∀y∈xs,y.length=B:=N.even
          have hil:xs[i].length=B:=F _ (List.getElem_mem hi)
          have hsl:(splice xs[i] new j).length=B:=by rw [bZ _ _ _ (by omega),hil]
          have hall:(Box.vec B xs).all.length=xs.length*B:=by
            show ((xs.map λx=>x.map V.d).flatten).length=_
            rw [qf B _ (λy hy=>by obtain ⟨z,X,rfl⟩:=List.mem_map.1 hy;rw [List.length_map];exact F z X)]
            simp
          have hb:i*B+B<=xs.length*B:=by rw [<- Nat.succ_mul];exact Nat.mul_le_mul_right _ hi
          refine fin ?_
          rw [show o+i*B+j=o+(i*B+j) by omega]
          refine H9 h hS rfl rfl M hsz (new.map .d) (i*B+j) (by rw [List.length_map,hlen];exact Z) (λk a1 a2 => ?_) (hx.cells_ones L) (by simpa using I) (by rw [hall];omega) ?_ rfl ?_ rfl rfl
          · rw [List.getElem_map]
            exact .d (yw O k (Z ▸ a1) (by simpa using a2) _ (c2 k a1 (Z ▸ a1)))
          · show ((xs.set i (splice xs[i] new j)).map λx=>x.map V.d).flatten=splice ((xs.map λx=>x.map V.d).flatten) (new.map .d) (i*B+j)
            rw [List.map_set,L8]
            have:=CQ B (xs.map λx=>x.map V.d) (λy hy=>by obtain ⟨z,X,rfl⟩:=List.mem_map.1 hy;rw [List.length_map];exact F z X) i j (new.map .d) (by simpa using hi) (by simp;omega)
            simpa using this
          · exact PR F i _ hsl
      · cases hf
    · cases hf
  · rename_i k
    cases hc:(Nat.beq (aX x).length size&&Nat.ble size k&&(aX x).all iM&&Nat.blt 0 size)with
    | false=>simp only [hc,cond_false]at hf;cases hf
    | true =>
      simp only [hc,cond_true,so_]at hf
      subst hf
      simp only [Bool.and_eq_true]at hc
      obtain ⟨⟨⟨h1,h2⟩,L⟩,h4⟩:=hc
      have I:=Nat.eq_of_beq_eq_true h1
      have W:=Nat.le_of_ble_eq_true h2
      have h4':0<size:=by simpa [Nat.blt_eq]using h4
      obtain ⟨Z,c2⟩:=hx.cells L
      have huo:=hx.cells_ones L
      cases ha.d_inv with
      | wildp b off _ m ht hm hfr hbd =>
        obtain ⟨arr,elem,J⟩:=ht
        rw [aV J]at hbd
        have hul:v.cells.toList.length=size:=Z.trans I
        have hcl:v.cells.size=size:=by rw [<- hul];simp
        have R:off+v.cells.toList.length<=arr.toList.length:=by rw [hul];simp;omega
        have hrun:=run_storeCells_at P b off elem v.cells.toList 0 arr w J (by simp;simp at R;omega) huo
        have Y:(storeCells ⟨b,off,none⟩ v.cells.toList).run P w = .ok () (w.setRow b (splice arr.toList v.cells.toList off).toArray):=hrun
        obtain ⟨i,e⟩:=M0 h J hm v.cells.toList (by omega) R (λo a1 a2=>hfr o a1 (by omega))
        refine⟨.skip,undef,_,G,?_,.inr ⟨rfl,rfl⟩,e,i.mono (λ_ x => .inl x),.none⟩
        simp only [Instr.storeAt,Instr.sureAddr,Sem.run_bind,Sem.run_pure,Result.andThen_ok,storeVar,run_sizeOf hsz,hcl,ne_eq,not_true_eq_false,if_false,Y]
  · cases hf
end
end Go.Eng

/-
  THE ENGINE: what makes memory (alloc, box, literals of structs and slices), and the plain operations.
-/
namespace Go.Eng
set_option linter.unusedSectionVars false
variable [DM]
variable {P:Program}
section
variable {E:Env} {G:Gh} {w:World} {S:Store} {tk:Nat} {U:Nat->Prop}
theorem mf (G:Gh) (w:World) (c:Value):RepV G w c (pg c):=by
  unfold pg
  split
  · exact .d (.int _ _)
  · exact .d (.bool _)
  · exact .d (.str _)
  · exact .nil _
  · exact .d .nilp
  · exact .nilm
  · exact .nili
  · exact .any _
theorem KW (G:Gh) (w:World) (v:Value):RepV G w v (valV v):=by
  unfold valV
  split
  · rename_i cs
    have:Value.agg cs=Value.agg cs.toList.toArray:=by simp
    rw [this]
    exact mJ (by simp) (λi h1 h2=>by rw [List.getElem_map];exact mf G w _)
  · rename_i vs
    split
    · rename_i h
      have:vs = #[]:=by simpa using h
      subst this
      exact .none
    · exact .any _
  · exact mf G w _
theorem zk (h:Inv E G w S tk U) {dst:Nat} (L:dst<100000) (R:¬U dst) (elem:TypeId) (arr:Array Value) (vs:List V) (hl:arr.toList.length=vs.length) (I:vs.length<1048576) (o:vs.all iM=true)
    (N:∀i (h1:i<arr.toList.length) (h2:i<vs.length),RepV G w arr.toList[i] vs[i]) {s:Sem Value}
    (B:s.run P w = .ok (.pointer (some ⟨w.heap.size,0,none⟩)) (w.alloc (.cells arr elem))) :
    dH P E (do pure (.value (<- s))) (some dst) G w S tk U ⟨[],[((dst,tk),some (.cells vs.length vs))],.ref (dst,tk) 0 0⟩:=by
  obtain ⟨h1,h2⟩:=h.allocBox dst R (.cells arr elem) (.cells vs.length vs) (λG' J e=>by
    have hb:=gq w (.cells arr elem)
    have hs:Stands G' (w.alloc (.cells arr elem)) (.cells vs.length vs) w.heap.size 0 vs.length :=
      { sz:=rfl,even:=trivial
        room:=by rw [aV hb];show 0+vs.length<=_;simp at hl;omega
        cell:=λj hj=>by
          have F:j<vs.length:=hj
          have A:j<arr.toList.length:=by omega
          refine⟨arr.toList[j],?_,(N j A F).oneCell (List.all_eq_true.1 o _ (List.getElem_mem _)),(N j A F).ext e⟩
          rw [cell_of_row hb,Nat.zero_add,<- Array.getElem?_toList,List.getElem?_eq_getElem A]
        free:=λ_=>⟨⟨arr,elem,hb⟩,λX M=>Nat.lt_irrefl _ (h.immB _ _ ((J _ _).1 M))⟩
        froz:=λO=>by simp [Box.mut]at O
        cel:=⟨λ_=>rfl,λhs=>absurd hs (Nat.not_le_of_lt I)⟩ }
    exact hs)
  refine⟨.value (.pointer (some ⟨w.heap.size,0,none⟩)),.pointer (some ⟨w.heap.size,0,none⟩),_,_,by simp only [Sem.run_bind,B,Result.andThen_ok,Sem.run_pure],.inl rfl,h2,h1.mono (λn W=>W.imp id (λe=>by rw [e,Nat.mod_eq_of_lt L])),?_⟩
  have:(⟨w.heap.size,0,none⟩:Addr)=⟨w.heap.size,0+0*vs.length+0,none⟩:=by simp
  rw [this]
  exact .ref 0 0 (by simp [Box.sz])
theorem l9 (w:World) (elem:TypeId) (cells:Array Value):(newRow elem cells).run P w = .ok ⟨w.heap.size,0,none⟩ (w.alloc (.cells cells elem)):=rfl
theorem wL (w:World) (t:TypeId) (v:Value):(newVar t v).run P w = .ok ⟨w.heap.size,0,none⟩ (w.alloc (.cells v.cells t)):=rfl
theorem boxF_ok (h:Inv E G w S tk U) {dst:Nat} (o:dst<100000) (I:¬U dst) {t:TypeId} {u:Value} {x:V} {A:Eff} (F:RepV G w u x) (hf:MR x dst tk=some A) :
    dH P E (do pure (.value (<- Instr.box t u))) (some dst) G w S tk U A:=by
  unfold MR at hf
  cases hob:((aX x).all iM&&Nat.blt (aX x).length 1048576)with
  | false=>simp only [hob,cond_false]at hf;cases hf
  | true =>
  simp only [hob,cond_true,so_]at hf
  subst hf
  obtain ⟨ho,B⟩:=(Bool.and_eq_true _ _).mp hob
  obtain ⟨J,L⟩:=F.cells ho
  exact zk h o I t u.cells (aX x) J (by simpa [Nat.blt_eq]using B) ho L (by simp [Instr.box,wL])
theorem kL {t:TypeId} {z:Value} (h:(P.info? t).bind (·.zero)=some z) (w:World):(zeroValue t).run P w = .ok z w:=by
  cases hi:P.info? t with
  | none=>simp [hi]at h
  | some i =>
    simp only [hi,ob_]at h
    simp [zeroValue,typeInfo,hi,h]
theorem PE (h:Inv E G w S tk U) {dst:Nat} (B:dst<100000) (I:¬U dst) {t:TypeId} {A:Eff} (hf:xm P t dst tk=some A) :
    dH P E (do pure (.value (<- Instr.alloc t true (.tuple #[])))) (some dst) G w S tk U A:=by
  unfold xm zeroCells at hf
  split at hf
  · rename_i cs o
    cases hob:(cs.all iM&&Nat.blt cs.length 1048576)with
    | false=>simp only [hob,cond_false]at hf;cases hf
    | true =>
    simp only [hob,cond_true,so_]at hf
    subst hf
    obtain ⟨ho,F⟩:=(Bool.and_eq_true _ _).mp hob
    simp only [Option.map_eq_some_iff]at o
    obtain ⟨z,J,rfl⟩:=o
    exact zk h B I t z.cells (z.cells.toList.map pg) (by simp) (by simpa [Nat.blt_eq]using F) ho (λi h1 h2=>by rw [List.getElem_map];exact mf G w _)
      (by simp [Instr.alloc,kL J,wL])
  · cases hf
theorem LQ (h:Inv E G w S tk U) {dst:Nat} (Y:dst<100000) (Z:¬U dst) {t:TypeId} {A:Eff} (hf:tK P t dst tk=some A) :
    dH P E (do pure (.value (<- Instr.alloc t true (.tuple #[])))) (some dst) G w S tk U A:=by
  unfold tK zeroCells at hf
  split at hf
  · rename_i L
    simp only [so_]at hf
    subst hf
    simp only [Option.map_eq_some_iff]at L
    obtain ⟨z,hz,o⟩:=L
    obtain ⟨F,B,N,I,e1⟩:∃F B,z.cells.toList=[F,B]/\pg F = .d .nilp/\pg B = .nil:=by
      match hl:z.cells.toList,o with
      | [F,B],o =>
        simp only [List.map_cons,List.map_nil,List.cons.injEq,and_true]at o
        exact⟨F,B,rfl,o.1,o.2⟩
      | [],o=>simp at o
      | [_],o=>simp at o
      | _::_::_::_,o=>simp at o
    have M:z.cells = #[F,B]:=Array.ext' N
    have h0:F = .pointer none:=by
      cases F with
      | pointer p=>cases p with
        | none=>rfl
        | some a=>simp [pg]at I
      | slice a l k =>
        exfalso
        unfold pg at I
        split at I <;> first | (cases I;done) | (rename_i R;cases R)
      | map m=>cases m <;> simp [pg]at I
      | _=>simp [pg]at I
    subst h0
    have h1:B = .slice none 0 0:=by
      cases B with
      | pointer p=>cases p with
        | none=>simp [pg]at e1
        | some a=>simp [pg]at e1
      | slice a l k =>
        unfold pg at e1
        split at e1 <;> first | (cases e1;done) | (rename_i R;cases R;done) | assumption
      | map m=>cases m <;> simp [pg]at e1
      | _=>simp [pg]at e1
    subst h1
    have hb:=gq w (.cells #[Value.pointer none,Value.slice none 0 0] t)
    obtain ⟨i1,i2⟩:=h.allocBox dst Z (.cells #[Value.pointer none,Value.slice none 0 0] t) (.cells (1048576+t) [.any,.nil]) (λG' W e=>by
      have hs:Stands G' (w.alloc (.cells #[Value.pointer none,Value.slice none 0 0] t)) (.cells (1048576+t) [.any,.nil]) w.heap.size 0 (1048576+t) :=
        { sz:=rfl,even:=trivial
          room:=by rw [aV hb];show 0+2<=2;omega
          cell:=λj hj=>by
            have X:j<2:=hj
            match j,X with
            | 0,_=>exact⟨.pointer none,by rw [cell_of_row hb];rfl,rfl,.any _⟩
            | 1,_=>exact⟨.slice none 0 0,by rw [cell_of_row hb];rfl,rfl,.nil none⟩
          free:=λ_=>⟨⟨_,t,hb⟩,λo' O=>Nat.lt_irrefl _ (h.immB _ _ ((W _ _).1 O))⟩
          froz:=λhx=>by simp [Box.mut]at hx
          cel:=⟨λ_=>rfl,λ_=>⟨_,_,by rw [Nat.add_sub_cancel_left];exact hb,.inl rfl,.inl rfl⟩⟩ }
      exact hs)
    refine⟨.value (.pointer (some ⟨w.heap.size,0,none⟩)),.pointer (some ⟨w.heap.size,0,none⟩),_,_,?_,.inl rfl,i2,i1.mono (λn hn=>hn.imp id (λe=>by rw [e,Nat.mod_eq_of_lt Y])),?_⟩
    · have J:(Instr.alloc t true (.tuple #[])).run P w = .ok (.pointer (some ⟨w.heap.size,0,none⟩)) (w.alloc (.cells #[Value.pointer none,Value.slice none 0 0] t)):=by
        simp [Instr.alloc,kL hz,wL,M]
      simp only [Sem.run_bind,J,Result.andThen_ok,Sem.run_pure]
    · have:(⟨w.heap.size,0,none⟩:Addr)=⟨w.heap.size,0+0*(1048576+t)+0,none⟩:=by simp
      rw [this]
      exact .ref 0 0 (by simp [Box.sz])
  · cases hf
theorem Qv {α β:Type} (arr:Array α) (f:α->Sem β) (g:α->β) (w:World) (h:∀x∈arr,(f x).run P w = .ok (g x) w) :
    (arr.mapM f).run P w = .ok (arr.map g) w:=by
  have hl:∀l:List α,(∀x∈l,(f x).run P w = .ok (g x) w)->(l.mapM f).run P w = .ok (l.map g) w:=by
    intro l
    induction l with
    | nil=>intro _;simp
    | cons x l A =>
      intro o
      simp [List.mapM_cons,o x (by simp),A (λy B=>o y (by simp [B]))]
  rw [Array.mapM_eq_mapM_toList]
  simp only [Sem.run_map,hl arr.toList (λx o=>h x (by simpa using o)),Result.andThen_ok]
  congr 1
  apply Array.ext'
  simp
theorem wm:∀(new:List Value) (k:Nat) (cells:Array Value) (off:Nat),off+k+new.length<=cells.size ->
    ((new.zipIdx k).foldl (λcs (c,j)=>cs.setIfInBounds (off+j) c) cells).toList=splice cells.toList new (off+k)
  | [],k,cells,off,_=>by simp [splice]
  | c::new,k,cells,off,h=>by
    simp only [List.length_cons]at h
    simp only [List.zipIdx_cons,List.foldl_cons]
    rw [wm new (k+1) _ off (by simp;omega)]
    simp only [Array.toList_setIfInBounds]
    apply List.ext_getElem?
    intro i
    have o:(cells.toList.set (off+k) c).length=cells.size:=by simp
    rw [og _ _ _ (by rw [o];omega),og _ _ _ (by simp;omega)]
    simp only [List.length_cons]
    by_cases h1:i=off+k
    · subst h1
      rw [if_neg (by omega),if_pos (by omega),List.getElem?_set_self (by simp;omega)]
      simp
    · by_cases h2:off+(k+1)<=i/\i<off+(k+1)+new.length
      · rw [if_pos h2,if_pos (by omega),show i-(off+k)=(i-(off+(k+1)))+1 by omega,List.getElem?_cons_succ]
      · rw [if_neg h2,if_neg (by omega),List.getElem?_set_ne (by omega)]
theorem qR (new:Array Value) (cells:Array Value) (off:Nat) :
    (new.zipIdx.foldl (λcs (x:Value×Nat)=>cs.setIfInBounds (off+x.2) x.1) cells)=(new.toList.zipIdx 0).foldl (λcs (x:Value×Nat)=>cs.setIfInBounds (off+x.2) x.1) cells:=by
  rw [<- Array.foldl_toList];congr 1;simp
def pG (G:Gh) (w:World) (us:List Value) (vs:List V):Prop :=
  us.length=vs.length/\∀i (h1:i<us.length) (h2:i<vs.length),RepV G w us[i] vs[i]
theorem pG.splice {us new:List Value} {vs A:List V} (h:pG G w us vs) (F:pG G w new A) (o:Nat) (ho:o+new.length<=us.length) :
    pG G w (Eng.splice us new o) (Eng.splice vs A o):=by
  have B:o+A.length<=vs.length:=by rw [<- F.1,<- h.1];exact ho
  refine⟨by rw [bZ _ _ _ ho,bZ _ _ _ B,h.1],λi h1 h2 => ?_⟩
  rw [ma _ _ _ ho,ma _ _ _ B]
  by_cases hin:o<=i/\i<o+new.length
  · rw [dif_pos hin,dif_pos (by rw [<- F.1];exact hin)]
    exact F.2 _ _ _
  · rw [dif_neg hin,dif_neg (by rw [<- F.1];exact hin)]
    exact h.2 _ _ _
theorem Jb (A:Nat->Option (Nat×Nat)):∀(parts:List (Nat×Value)) (h:List (Nat×V)) (cells:Array Value) (o B:List V),
    parts.length=h.length->(∀i (h1:i<parts.length) (h2:i<h.length),parts[i].1=h[i].1/\RepV G w parts[i].2 h[i].2) ->
    (∀p∈h,(aX p.2).all iM=true) ->
    pG G w cells.toList o->y5 A o h=some B->∃I,Instr.fill A cells parts=some I/\pG G w I.toList B
  | [],[],cells,o,B,_,_,_,hc,hf=>by
    simp only [y5,so_]at hf
    subst hf
    exact⟨cells,rfl,hc⟩
  | [],_::_,_,_,_,hl,_,_,_,_=>by simp at hl
  | _::_,[],_,_,_,hl,_,_,_,_=>by simp at hl
  | (i,u)::parts,(j,x)::h,cells,o,B,hl,hp,ho,hc,hf=>by
    have N:=hp 0 (by simp) (by simp)
    simp only [List.getElem_cons_zero]at N
    obtain ⟨rfl,Y⟩:=N
    simp only [y5]at hf
    split at hf
    · cases hf
    rename_i off size J
    cases hcnd:(Nat.beq (aX x).length size&&Nat.ble (off+size) o.length)with
    | false=>simp only [hcnd,cond_false]at hf;cases hf
    | true =>
      simp only [hcnd,cond_true]at hf
      simp only [Bool.and_eq_true]at hcnd
      have e1:=Nat.eq_of_beq_eq_true hcnd.1
      have e2:=Nat.le_of_ble_eq_true hcnd.2
      obtain ⟨O,X⟩:=Y.cells (ho (i,x) (by simp))
      have M:u.cells.size=size:=by rw [<- e1,<- O];simp
      have R:cells.size=o.length:=by have:=hc.1;simpa using this
      simp only [Instr.fill,J]
      rw [if_neg (by simp [M];omega),qR]
      have F:=wm u.cells.toList 0 cells off (by simp;omega)
      refine Jb A parts h _ (splice o (aX x) off) B (by simpa using hl) (λk W a2=>hp (k+1) (Nat.succ_lt_succ W) (Nat.succ_lt_succ a2)) (λp L=>ho p (by simp [L])) ?_ hf
      rw [F]
      exact hc.splice ⟨O,X⟩ off (by simp;omega)
theorem run_build (t:TypeId) (parts:Array (Nat×Value)) {fs:Array Field} (B:P.underlying t=some (.struct fs)) (h:∀f∈fs,(P.info? f.type).isSome=true) {z:Value}
    (A:(P.info? t).bind (·.zero)=some z) (w:World) {o:Array Value}
    (hf:Instr.fill (λi=>(fs.map λf=>(f.offset,((P.info? f.type).map (·.size)).getD 0))[i]?) z.cells parts.toList=some o) :
    (Instr.build t parts).run P w = .ok (.agg o) w:=by
  have hm:(fs.mapM (λ(f:Field)=>do pure (f.offset,<- sizeOf f.type))).run P w = .ok (fs.map λf=>(f.offset,((P.info? f.type).map (·.size)).getD 0)) w:=by
    refine Qv fs _ _ w (λf hf => ?_)
    have:=h f hf
    cases hi:P.info? f.type with
    | none=>simp [hi]at this
    | some i=>simp [sizeOf,typeInfo,hi]
  unfold Instr.build
  simp only [Sem.run_bind,kL A,Result.andThen_ok,aS B,hm]
  simp only [hf,Sem.run_pure]
theorem PG {t:TypeId} {parts:Array (Nat×Value)} {o:List (Nat×V)} {v:V}
    (hl:parts.toList.length=o.length) (hp:∀i (h1:i<parts.toList.length) (h2:i<o.length),parts.toList[i].1=o[i].1/\RepV G w parts.toList[i].2 o[i].2)
    (ho:∀p∈o,(aX p.2).all iM=true) (hf:Iz P t o=some v) :
    ∃u,(Instr.build t parts).run P w = .ok u w/\RepV G w u v:=by
  unfold Iz at hf
  cases hs:isStruct P t with
  | false =>
    simp only [hs,cond_false]at hf
    unfold arrT at hf
    split at hf
    · rename_i size zc hsz J
      split at hsz
      · rename_i n e O
        simp only [zeroCells,Option.map_eq_some_iff]at J
        obtain ⟨z,J,rfl⟩:=J
        simp only [Option.map_eq_some_iff]at hf
        obtain ⟨A,B,rfl⟩:=hf
        obtain ⟨Y,d,W,i2,_⟩:=uR hsz
        obtain ⟨F,r1,r2⟩:=Jb (G:=G) (w:=w) _ parts.toList o z.cells (z.cells.toList.map pg) A hl hp ho
          ⟨by simp,λi h1 h2=>by rw [List.getElem_map];exact mf G w _⟩ B
        refine⟨.agg F,?_,?_⟩
        · unfold Instr.build
          simp only [Sem.run_bind,kL J,Result.andThen_ok,aS O]
          have Z:(sizeOf e).run P w = .ok size w:=by simp [sizeOf,typeInfo,W,i2]
          simp only [Z,Result.andThen_ok,r1,Sem.run_pure]
        · have:Value.agg F=Value.agg F.toList.toArray:=by simp
          rw [this]
          exact mJ r2.1 r2.2
      · cases hsz
    · cases hf
  | true =>
    simp only [hs,cond_true]at hf
    unfold isStruct at hs
    split at hs
    · rename_i fs O
      split at hf
      · rename_i zc J
        simp only [zeroCells,Option.map_eq_some_iff]at J
        obtain ⟨z,J,rfl⟩:=J
        simp only [Option.map_eq_some_iff]at hf
        obtain ⟨A,B,rfl⟩:=hf
        have N:∀f∈fs,(P.info? f.type).isSome=true:=by
          intro f hf
          obtain ⟨i,hi,rfl⟩:=Array.getElem_of_mem hf
          exact (Array.all_eq_true.1 hs) i hi
        have L:y5 (λi=>(fs.map λf=>(f.offset,((P.info? f.type).map (·.size)).getD 0))[i]?) (z.cells.toList.map pg) o=some A:=by
          have key:∀(l:List (Nat×V)) (cells:List V) (A:List V),y5 (bN P t) cells l=some A ->
              y5 (λi=>(fs.map λf=>(f.offset,((P.info? f.type).map (·.size)).getD 0))[i]?) cells l=some A:=by
            intro l
            induction l with
            | nil=>intro cells A h;exact h
            | cons p l ih =>
              intro cells A h
              obtain ⟨i,x⟩:=p
              simp only [y5]at h ⊢
              split at h
              · cases h
              rename_i off size I
              unfold bN x8 at I
              simp only [O]at I
              split at I
              · rename_i fd X
                simp only [Option.map_eq_some_iff,Prod.mk.injEq]at I
                obtain ⟨s,R,rfl,rfl⟩:=I
                obtain ⟨Y,d,W,i2,_⟩:=uR R
                have M:(fs.map λf=>(f.offset,((P.info? f.type).map (·.size)).getD 0))[i]? = some (fd.offset,s):=by
                  rw [Array.getElem?_map,X];simp [W,i2]
                simp only [M]
                cases hc:(Nat.beq (aX x).length s&&Nat.ble (fd.offset+s) cells.length)with
                | false=>simp only [hc,cond_false]at h;cases h
                | true=>simp only [hc,cond_true]at h ⊢;exact ih _ _ h
              · cases I
          exact key _ _ _ B
        obtain ⟨F,r1,r2⟩:=Jb (G:=G) (w:=w) _ parts.toList o z.cells (z.cells.toList.map pg) A hl hp ho
          ⟨by simp,λi h1 h2=>by rw [List.getElem_map];exact mf G w _⟩ L
        refine⟨.agg F,run_build t parts O N J w r1,?_⟩
        have:Value.agg F=Value.agg F.toList.toArray:=by simp
        rw [this]
        exact mJ r2.1 r2.2
      · cases hf
    · cases hs
end
end Go.Eng

/-
  THE ENGINE: addresses of elements and fields, arithmetic and comparisons, lengths, slices of slices.
-/
namespace Go.Eng
set_option linter.unusedSectionVars false
variable [DM]
variable {P:Program}
section
variable {E:Env} {G:Gh} {w:World} {S:Store} {tk:Nat} {U:Nat->Prop} {dst:Option Nat}
theorem RepD.int_inv {I:Nat->Nat->Prop} {u:Value} {k:IntKind} {n:Int} (h:RepD I w u (.int k n)):u = .int k n:=by cases h;rfl
theorem RepD.bool_inv {I:Nat->Nat->Prop} {u:Value} {b:Bool} (h:RepD I w u (.bool b)):u = .bool b:=by cases h;rfl
theorem RepD.str_inv {I:Nat->Nat->Prop} {u:Value} {s:ByteArray} (h:RepD I w u (.str s)):u = .string s:=by cases h;rfl
theorem jf {t e:TypeId} (h:elemT P t=some e):P.underlying t=some (.slice e):=by
  unfold elemT at h
  split at h
  · rename_i e' he;simp only [so_]at h;subst h;exact he
  · cases h
theorem RepD.sl_len {I:Nat->Nat->Prop} {u:Value} {xs:List (List D)} (h:RepD I w u (.sl xs)):∃a cap,u = .slice a xs.length cap/\xs.length<=cap\/∃a cap,u = .slice a 0 cap/\xs=[]:=by
  cases h with
  | sl0 a cap=>exact⟨none,0,.inr ⟨a,cap,rfl,rfl⟩⟩
  | sl b off cap sz xs us hcap hsz hI hc ho h=>exact⟨_,_,.inl ⟨rfl,hcap⟩⟩
theorem Gm (h:Inv E G w S tk U) {t:TypeId} {u v:Value} {x i:V} {A:Eff} (R:RepV G w u x) (hi:RepV G w v i) (hf:kG P t x i=some A) :
    dH P E (do pure (.value (<- Instr.indexAt t u v))) dst G w S tk U A:=by
  unfold kG at hf
  split at hf
  · rename_i size k n hsz
    simp only [Option.bind_eq_some_iff]at hsz
    obtain ⟨e,he,hsz⟩:=hsz
    have L:=jf he
    have X:=hi.d_inv.int_inv
    subst X
    cases hn:decide (0<=n)with
    | false=>simp only [hn,cond_false]at hf;cases hf
    | true =>
      have F:0<=n:=of_decide_eq_true hn
      simp only [hn,cond_true]at hf
      split at hf
      · rename_i xs
        split at hf
        · rename_i cs O
          cases hb:Nat.beq cs.length size with
          | false=>simp only [hb,cond_false]at hf;cases hf
          | true =>
            simp only [hb,cond_true]at hf
            rw [dW hf]
            obtain ⟨B,rfl⟩:=List.getElem?_eq_some_iff.1 O
            have M:=Nat.eq_of_beq_eq_true hb
            cases R.d_inv with
            | sl0 a cap=>simp at B
            | sl b off cap sz _ us hcap hs hI hc _ Y =>
              have I:sz=size:=by rw [<- hs _ B,M]
              subst I
              refine dH.still h (u := .pointer (some ⟨b,off+n.toNat*sz,none⟩)) ?_ ?_
              · have h1:(0<=n/\n<(xs.length:Int)):=⟨F,by omega⟩
                simp only [Instr.indexAt,asIntOf,Sem.run_bind,Sem.run_pure,Result.andThen_ok,aS L,h1,run_sizeOf hsz,addr_add,and_self,if_true]
              · exact .d (.ptr _ _ _ (λj=>us n.toNat j) (λj hj=>hI _ j B (by omega)) (λj hj=>hc _ j B (by omega)) (λj hj=>Y _ j B hj))
        · cases hf
      · rename_i n' sz k len
        cases hb:(Nat.ble (n.toNat+1) len&&Nat.beq sz size)with
        | false=>simp only [hb,cond_false]at hf;cases hf
        | true =>
          simp only [hb,cond_true]at hf
          rw [dW hf]
          simp only [Bool.and_eq_true]at hb
          have h1:=Nat.le_of_ble_eq_true hb.1
          have h2:=Nat.eq_of_beq_eq_true hb.2
          subst h2
          cases R with
          | vs0=>omega
          | vs _ _ cap N hc J =>
            rename_i b o
            refine dH.still h (u := .pointer (some ⟨b,o+k*sz+n.toNat*sz,none⟩)) ?_ ?_
            · have h1:(0<=n/\n<(len:Int)):=⟨F,by omega⟩
              simp only [Instr.indexAt,asIntOf,Sem.run_bind,Sem.run_pure,Result.andThen_ok,aS L,h1,run_sizeOf hsz,addr_add,and_self,if_true]
            · have:o+k*sz+n.toNat*sz=o+(k+n.toNat)*sz+0:=by rw [Nat.add_mul];omega
              rw [this]
              exact .ref _ _ N
      · rename_i sz len
        cases hb:(Nat.ble (n.toNat+1) len&&Nat.beq sz size)with
        | false=>simp only [hb,cond_false]at hf;cases hf
        | true =>
          simp only [hb,cond_true]at hf
          rw [dW hf]
          simp only [Bool.and_eq_true]at hb
          have h1:=Nat.le_of_ble_eq_true hb.1
          have h2:=Nat.eq_of_beq_eq_true hb.2
          subst h2
          cases R.d_inv with
          | wild0=>omega
          | wild b off cap _ _ m ht hm W J =>
            have Z:n.toNat*sz+sz<=len*sz:=by rw [<- Nat.succ_mul];exact Nat.mul_le_mul_right _ h1
            refine dH.still h (u := .pointer (some ⟨b,off+n.toNat*sz,none⟩)) ?_ (.d (.wildp b _ sz m ht hm (λo a c=>W o (by omega) (by omega)) (by omega)))
            have h1:(0<=n/\n<(len:Int)):=⟨F,by omega⟩
            simp only [Instr.indexAt,asIntOf,Sem.run_bind,Sem.run_pure,Result.andThen_ok,aS L,h1,run_sizeOf hsz,addr_add,and_self,if_true]
      · cases hf
  · cases hf
theorem CX {t:TypeId} {f:Nat} {A:Field} (h:x8 P t f=some A):∃fs,P.underlying t=some (.struct fs)/\fs[f]? = some A:=by
  unfold x8 at h
  split at h
  · rename_i fs o;exact⟨fs,o,h⟩
  · cases h
theorem Gr (h:Inv E G w S tk U) {t:TypeId} {u:Value} {x:V} {f:Nat} {A:Eff} (L:RepV G w u x) (hf:je P t x f=some A) :
    dH P E (do pure (.value (<- Instr.fieldAt t u f))) dst G w S tk U A:=by
  unfold je at hf
  split at hf
  · rename_i F J
    obtain ⟨fs,N,M⟩:=CX J
    split at hf
    · rename_i s hsz
      have B:∀b o,(Instr.fieldAt t (.pointer (some ⟨b,o,none⟩)) f).run P w = .ok (.pointer (some ⟨b,o+F.offset,none⟩)) w:=by
        intro b o
        simp only [Instr.fieldAt,Sem.run_bind,aS N,Result.andThen_ok,M,Instr.sureAddr,Sem.run_pure,fieldPlace,run_sizeOf hsz,addr_add]
        simp
      split at hf
      · rename_i cs
        cases hb:Nat.ble F.offset cs.length with
        | false=>simp only [hb,cond_false]at hf;cases hf
        | true =>
          simp only [hb,cond_true]at hf
          rw [dW hf]
          have O:=Nat.le_of_ble_eq_true hb
          cases L.d_inv with
          | ptr _ _ _ us hI hc R =>
            refine dH.still h (B _ _) (.d (.ptr _ _ _ (λj=>us (F.offset+j)) (λj hj => ?_) (λj hj => ?_) (λj hj => ?_)))
            · simp only [List.length_drop]at hj
              rw [Nat.add_assoc];exact hI _ (by omega)
            · simp only [List.length_drop]at hj
              rw [Nat.add_assoc];exact hc _ (by omega)
            · rw [List.getElem_drop];exact R _ (by simp only [List.length_drop]at hj;omega)
      · rename_i n i j
        rw [dW hf]
        obtain ⟨b,o,sz,I,rfl⟩:=L.ref_inv
        refine dH.still h (B _ _) ?_
        rw [Nat.add_assoc]
        exact .ref i (j+F.offset) I
      · cases hf
    · cases hf
  · cases hf
theorem Er {t:TypeId} {size:Nat} (hsz:szT P t=some size) (w:World) (cs:Array Value) (off:Nat) :
    (part t cs off).run P w=if cz P t then .ok (.agg (cs.extract off (off+size))) w else match cs[off]? with
      | some v => .ok v w
      | none => .halt (.stuck "part: no such cell") w := by
  simp only [part,Sem.run_bind,Cs hsz,Result.andThen_ok]
  split
  · simp only [Sem.run_bind,run_sizeOf hsz,Result.andThen_ok,Sem.run_pure]
  · generalize cs[off]? = r
    cases r <;> rfl
theorem Bg {t:TypeId} {size:Nat} (hsz:szT P t=some size) (w:World) (arr:List Value) (ds:List D) (off:Nat) (hl:arr.length=ds.length)
    (B:∀i (h1:i<arr.length) (h2:i<ds.length),RepD G.imm w arr[i] ds[i]) {v:V} (h:rdD (cz P t) size (ds.drop off)=some v) :
    ∃u,(part t arr.toArray off).run P w = .ok u w/\RepV G w u v:=by
  rw [Er hsz]
  unfold rdD at h
  cases ha:cz P t with
  | true =>
    simp only [ha,cond_true]at h
    cases hb:Nat.ble size (ds.drop off).length with
    | false=>simp only [hb,cond_false]at h;cases h
    | true =>
      simp only [hb,cond_true,so_]at h
      subst h
      have A:=Nat.le_of_ble_eq_true hb
      simp only [List.length_drop]at A
      refine⟨_,rfl,.d ?_⟩
      have e:arr.toArray.extract off (off+size)=((arr.drop off).take size).toArray:=by
        apply Array.ext'
        simp [List.extract_eq_take_drop]
      rw [e]
      refine .agg _ _ (by simp;omega) (λi h1 h2 => ?_)
      simp only [List.getElem_take,List.getElem_drop]
      simp at h1 h2
      exact B _ (by omega) (by omega)
  | false =>
    simp only [ha,cond_false]at h
    split at h
    · rename_i c rest hc
      simp only [so_]at h
      subst h
      have o:off<ds.length:=by
        rcases Nat.lt_or_ge off ds.length with h|h
        · exact h
        · rw [List.drop_eq_nil_of_le h]at hc;cases hc
      have F:ds[off]=c:=by
        rw [List.drop_eq_getElem_cons o]at hc
        exact (List.cons.inj hc).1
      refine⟨arr[off],by simp [show off<arr.length by omega],.d ?_⟩
      rw [<- F]
      exact B off (by omega) o
    · cases h
theorem Q6 {t:TypeId} {size:Nat} (hsz:szT P t=some size) (w:World) (arr:List Value) (ds:List V) (off:Nat) (hl:arr.length=ds.length)
    (B:∀i (h1:i<arr.length) (h2:i<ds.length),RepV G w arr[i] ds[i]) {v:V} (h:rdV (cz P t) size (ds.drop off)=some v) :
    ∃u,(part t arr.toArray off).run P w = .ok u w/\RepV G w u v:=by
  rw [Er hsz]
  unfold rdV at h
  cases ha:cz P t with
  | true =>
    simp only [ha,cond_true]at h
    cases hb:Nat.ble size (ds.drop off).length with
    | false=>simp only [hb,cond_false]at h;cases h
    | true =>
      simp only [hb,cond_true,so_]at h
      subst h
      have A:=Nat.le_of_ble_eq_true hb
      simp only [List.length_drop]at A
      refine⟨_,rfl,?_⟩
      have e:arr.toArray.extract off (off+size)=((arr.drop off).take size).toArray:=by
        apply Array.ext'
        simp [List.extract_eq_take_drop]
      rw [e]
      refine mJ (by simp;omega) (λi h1 h2 => ?_)
      simp only [List.getElem_take,List.getElem_drop]
      simp at h1 h2
      exact B _ (by omega) (by omega)
  | false =>
    simp only [ha,cond_false]at h
    split at h
    · rename_i c rest hc
      simp only [so_]at h
      subst h
      have o:off<ds.length:=by
        rcases Nat.lt_or_ge off ds.length with h|h
        · exact h
        · rw [List.drop_eq_nil_of_le h]at hc;cases hc
      have F:ds[off]=c:=by
        rw [List.drop_eq_getElem_cons o]at hc
        exact (List.cons.inj hc).1
      refine⟨arr[off],by simp [show off<arr.length by omega],?_⟩
      rw [<- F]
      exact B off (by omega) o
    · cases h
theorem OB {t:TypeId} {u:Value} {x v:V} {f:Nat} (A:RepV G w u x) (hf:Js P t x f=some v) :
    ∃r,(Instr.field t u f).run P w = .ok r w/\RepV G w r v:=by
  unfold Js at hf
  split at hf
  · rename_i B h
    obtain ⟨fs,I,F⟩:=CX h
    split at hf
    · rename_i size hsz
      split at hf
      · rename_i ds
        cases A.d_inv with
        | agg arr _ hl o =>
          obtain ⟨r,h1,h2⟩:=Bg hsz w arr ds B.offset hl o hf
          exact⟨r,by simpa [Instr.field,aS I,F,asAgg]using h1,h2⟩
      · rename_i vs
        cases A with
        | agg arr _ hl o =>
          obtain ⟨r,h1,h2⟩:=Q6 hsz w arr vs B.offset hl o hf
          exact⟨r,by simpa [Instr.field,aS I,F,asAgg]using h1,h2⟩
      · cases hf
    · cases hf
  · cases hf
theorem Q5 {op:BinOp} (hs:Gv op=false) {k:IntKind} {a b:Int} {x:D} (hf:Ld op k a b=some x) (t:TypeId) (w:World) :
    ∃r,(binOp op t (.int k a) (.int k b)).run P w = .ok r w/\∀I,RepD I w r x:=by
  have o:∀{c:D},(if b=0 then Option.none else some c)=some x->b≠0/\c=x:=by
    intro c h
    by_cases hb:b=0
    · rw [if_pos hb]at h;cases h
    · rw [if_neg hb]at h;exact⟨hb,Option.some.inj h⟩
  cases op with
  | shl=>simp [Gv]at hs
  | shr=>simp [Gv]at hs
  | quo =>
    obtain ⟨hb,rfl⟩:=o hf
    exact⟨.int k (k.wrap (a.tdiv b)),by simp [binOp,Op.intDiv,hb],λI => .int _ _⟩
  | rem =>
    obtain ⟨hb,rfl⟩:=o hf
    exact⟨.int k (a.tmod b),by simp [binOp,Op.intDiv,hb],λI => .int _ _⟩
  | andNot=>cases hf
  | _ =>
    simp only [Ld,so_]at hf
    subst hf
    exact⟨_,by simp [binOp,Op.intArith,Op.intCmp,Op.intBits];rfl,λI=>by first | exact .int _ _ | exact .bool _⟩
theorem shOp_ok {op:BinOp} (h:Gv op=true) {k k':IntKind} {a b:Int} {x:D} (hf:Qf op k a b=some x) (t:TypeId) (w:World) :
    ∃r,(binOp op t (.int k a) (.int k' b)).run P w = .ok r w/\∀I,RepD I w r x:=by
  unfold Qf at hf
  split at hf
  · cases hf
  rename_i hb
  split at hf
  · simp only [so_]at hf;subst hf
    exact⟨.int k (k.wrap (a*2 ^ (min b.toNat k.bits))),by simp [binOp,Op.shift,hb],λI => .int _ _⟩
  · simp only [so_]at hf;subst hf
    exact⟨.int k (a.fdiv (2 ^ (min b.toNat k.bits))),by simp [binOp,Op.shift,hb],λI => .int _ _⟩
  · cases hf
theorem RL {op:BinOp} {a b:ByteArray} {x:D} (hf:N8 op a b=some x) (t:TypeId) (w:World) :
    ∃r,(binOp op t (.string a) (.string b)).run P w = .ok r w/\∀I,RepD I w r x:=by
  have hb:∀op,binOp op t (.string a) (.string b)=Op.stringOp op a b:=by intro op;cases op <;> simp [binOp]
  rw [hb]
  cases op <;> simp only [N8,so_]at hf <;>
    first
    | (subst hf;exact⟨_,rfl,λI => .bool _⟩)
    | (split at hf
       · cases hf
       · rename_i hb
         simp only [so_]at hf
         subst hf
         exact⟨.string (a++b),by simp only [Op.stringOp];rw [if_neg hb];rfl,λI => .str _⟩)
    | cases hf
theorem nC (op:BinOp) (t:TypeId) (x y:Operand) (a b:Value) (h:∀xs ys,¬(a = .agg xs/\b = .agg ys)) (o:¬(a = .nilIface/\b = .nilIface)) (w:World) :
    (eqGuard op t x y a b).run P w = .ok () w:=by
  unfold eqGuard
  split
  · rw [if_neg (by decide)]
    split
    · exact absurd ⟨rfl,rfl⟩ o
    · exact absurd ⟨rfl,rfl⟩ (h _ _)
    · rfl
  · rw [if_neg (by decide)]
    split
    · exact absurd ⟨rfl,rfl⟩ o
    · exact absurd ⟨rfl,rfl⟩ (h _ _)
    · rfl
  · rw [if_pos (by rfl)];rfl
theorem binF_ok {op:BinOp} {t:TypeId} {ox oy:Operand} {u u':Value} {x y v:V} (o:RepV G w u x) (B:RepV G w u' y) (hf:Ji op x y=some v) :
    ∃r,(do eqGuard op t ox oy u u';binOp op t u u').run P w = .ok r w/\RepV G w r v:=by
  unfold Ji at hf
  split at hf
  · rename_i k a k' b
    have e1:=o.d_inv.int_inv
    have e2:=B.d_inv.int_inv
    subst e1 e2
    have A:=nC (P:=P) op t ox oy (.int k a) (.int k' b) (λ_ _ h=>by cases h.1) (λh=>by cases h.1) w
    cases hs:Gv op with
    | true =>
      simp only [hs,cond_true,Option.map_eq_some_iff]at hf
      obtain ⟨x,o,rfl⟩:=hf
      obtain ⟨r,h1,h2⟩:=shOp_ok (P:=P) (k':=k') hs o t w
      exact⟨r,by simp [A,h1],.d (h2 _)⟩
    | false =>
      simp only [hs,cond_false]at hf
      split at hf
      · rename_i F
        subst F
        simp only [Option.map_eq_some_iff]at hf
        obtain ⟨x,o,rfl⟩:=hf
        obtain ⟨r,h1,h2⟩:=Q5 (P:=P) hs o t w
        exact⟨r,by simp [A,h1],.d (h2 _)⟩
      · cases hf
  · rename_i a b
    have e1:=o.d_inv.str_inv
    have e2:=B.d_inv.str_inv
    subst e1 e2
    have A:=nC (P:=P) op t ox oy (.string a) (.string b) (λ_ _ h=>by cases h.1) (λh=>by cases h.1) w
    simp only [Option.map_eq_some_iff]at hf
    obtain ⟨x,o,rfl⟩:=hf
    obtain ⟨r,h1,h2⟩:=RL (P:=P) o t w
    exact⟨r,by simp [A,h1],.d (h2 _)⟩
  · cases hf
theorem unF_ok {op:UnOp} {u:Value} {x v:V} (h:RepV G w u x) (hf:unF op x=some v):∃r,(Op.unary op u).run P w = .ok r w/\RepV G w r v:=by
  unfold unF at hf
  split at hf
  · simp only [so_]at hf;subst hf
    rw [h.d_inv.int_inv]
    exact⟨_,rfl,.d (.int _ _)⟩
  · simp only [so_]at hf;subst hf
    rw [h.d_inv.bool_inv]
    exact⟨_,rfl,.d (.bool _)⟩
  · cases hf
end
end Go.Eng

/-
  THE ENGINE: comparisons of structs, lengths, slices of slices, slice literals, make.
-/
namespace Go.Eng
set_option linter.unusedSectionVars false
variable [DM]
variable {P:Program}
section
variable {E:Env} {G:Gh} {w:World} {S:Store} {tk:Nat} {U:Nat->Prop} {dst:Option Nat}
theorem CG (n:Nat) (W:∀(t:TypeId) (x y:D) (u v:Value) (b:Bool) (m:Nat),n<=m->RepD G.imm w u x->RepD G.imm w v y->eqD P n t x y=some b->(Op.equalIn m t u v).run P w = .ok b w)
  (m:Nat) (hm:n<=m) (arr o:List Value) (xs ys:List D) (N:RepD G.imm w (.agg arr.toArray) (.agg xs)) (M:RepD G.imm w (.agg o.toArray) (.agg ys)) :
  ∀(fs:List Field) (b:Bool),fs.foldr (λf L =>
    match szT P f.type,L with
    | some size,some r =>
     match rdD (cz P f.type) size (xs.drop f.offset),rdD (cz P f.type) size (ys.drop f.offset)with
     | some (.d a), some (.d b) => if f.name = "_" then some r else (eqD P n f.type a b).map (· && r)
     | _,_=>Option.none
    | _,_=>Option.none) (some true)=some b->(Op.eqFields m arr.toArray o.toArray fs).run P w = .ok b w
 | [],b,h=>by
  simp only [List.foldr_nil,so_]at h
  subst h;rfl
 | f::fs,b,h=>by
  simp only [List.foldr_cons]at h
  generalize J:(fs.foldr _ (some true))=L at h
  split at h
  ·rename_i size r hsz
   split at h
   ·rename_i a c ha hc
    have B:=CG n W m hm arr o xs ys N M fs r J
    have X:arr.length=xs.length/\∀i (h1:i<arr.length) (h2:i<xs.length),RepD G.imm w arr[i] xs[i]:=by
     generalize I:Value.agg arr.toArray=A at N
     cases N with
     | agg F _ hl O =>
      simp only [Value.agg.injEq]at I
      have:arr=F:=by simpa using congrArg Array.toList I
      subst this;exact⟨hl,O⟩
    have R:o.length=ys.length/\∀i (h1:i<o.length) (h2:i<ys.length),RepD G.imm w o[i] ys[i]:=by
     generalize I:Value.agg o.toArray=A at M
     cases M with
     | agg F _ hl O =>
      simp only [Value.agg.injEq]at I
      have:o=F:=by simpa using congrArg Array.toList I
      subst this;exact⟨hl,O⟩
    obtain ⟨Y,p1,q1⟩:=Bg (G:=G) hsz w arr xs f.offset X.1 X.2 ha
    obtain ⟨Z,p2,q2⟩:=Bg (G:=G) hsz w o ys f.offset R.1 R.2 hc
    by_cases hn : f.name = "_"
    ·rw [if_pos hn]at h
     simp only [so_]at h
     subst h
     simp only [Op.eqFields,hn,ne_eq,not_true_eq_false,if_false]
     exact B
    ·rw [if_neg hn]at h
     simp only [Option.map_eq_some_iff]at h
     obtain ⟨e,he,rfl⟩:=h
     have h3:=W f.type a c Y Z e m hm q1.d_inv q2.d_inv he
     simp only [Op.eqFields,ne_eq,hn,not_false_eq_true,if_true,Sem.run_bind,p1,p2,Result.andThen_ok,h3]
     cases e
     ·simp
     ·simpa using B
   ·cases h
  ·cases h
theorem II:∀(n:Nat) (t:TypeId) (x y:D) (u v:Value) (b:Bool) (m:Nat),n<=m->RepD G.imm w u x->RepD G.imm w v y->eqD P n t x y=some b ->
  (Op.equalIn m t u v).run P w = .ok b w
 | 0,_,_,_,_,_,_,_,_,_,_,h=>by simp [eqD]at h
 | n+1,t,x,y,u,v,b,m,hm,I,F,h=>by
  obtain ⟨m,rfl⟩:∃M,m=M+1:=⟨m-1,by omega⟩
  simp only [eqD]at h
  split at h
  ·rename_i a c o
   simp only [so_]at h;subst h
   rw [I.bool_inv,F.bool_inv]
   simp [Op.equalIn,aS o]
  ·rename_i W k a k' c o
   split at h
   ·rename_i R
    subst R
    simp only [so_]at h;subst h
    rw [I.int_inv,F.int_inv]
    simp [Op.equalIn,aS o]
   ·cases h
  ·rename_i a c o
   simp only [so_]at h;subst h
   rw [I.str_inv,F.str_inv]
   exact run_equalIn_string w m t a c o
  ·rename_i fs xs ys o
   cases hp:P.stoodInHeld t with
   | true=>simp only [hp,cond_true]at h;cases h
   | false =>
    simp only [hp,cond_false]at h
    have B:P.fieldsOf t=fs:=by simp [Program.fieldsOf,o]
    have N:=II n
    cases I with
    | agg arr _ hl O =>
     cases F with
     | agg A _ J L =>
      rw [run_equalIn_struct w m t arr.toArray A.toArray (by rw [B];exact o) hp,B]
      exact CG n N m (by omega) arr A xs ys (.agg arr xs hl O) (.agg A ys J L) fs.toList b h
  ·cases h
theorem QY {op:BinOp} {t:TypeId} {ox oy:Operand} {u u':Value} {x y v:V} (I:RepV G w u x) (M:RepV G w u' y) (hf:qh P op t x y=some v) :
  ∃r,(do eqGuard op t ox oy u u';binOp op t u u').run P w = .ok r w/\RepV G w r v:=by
 unfold qh at hf
 split at hf
 ·rename_i xs ys
  cases B:P.eqGuardType P.depth t with
  | true=>simp only [B,cond_true]at hf;cases hf
  | false =>
   simp only [B,cond_false]at hf
   have A:=I.d_inv
   have o:=M.d_inv
   obtain ⟨arr,rfl⟩:∃arr,u = .agg arr:=by cases A with|agg arr _ _ _=>exact⟨_,rfl⟩
   obtain ⟨J,rfl⟩:∃arr,u' = .agg arr:=by cases o with|agg arr _ _ _=>exact⟨_,rfl⟩
   have F:=run_eqGuard_agg w op t ox oy arr J B
   split at hf
   ·simp only [Option.map_eq_some_iff]at hf
    obtain ⟨b,hb,rfl⟩:=hf
    have:=II 8 t _ _ _ _ b 10000 (by omega) A o hb
    exact⟨.bool b,by simp only [Sem.run_bind,F,Result.andThen_ok,run_eql_struct,this],.d (.bool b)⟩
   ·simp only [Option.map_eq_some_iff]at hf
    obtain ⟨b,hb,rfl⟩:=hf
    have:=II 8 t _ _ _ _ b 10000 (by omega) A o hb
    exact⟨.bool !b,by simp only [Sem.run_bind,F,Result.andThen_ok,run_neq_struct,this],.d (.bool _)⟩
   ·cases hf
 ·rename_i a b
  rw [I.d_inv.bool_inv,M.d_inv.bool_inv]
  have B:=nC (P:=P) op t ox oy (.bool a) (.bool b) (λ_ _ h=>by cases h.1) (λh=>by cases h.1) w
  split at hf
  ·rename_i L
   simp only [so_]at hf;subst hf
   exact⟨.bool (a==b),by simp only [Sem.run_bind,B,Result.andThen_ok];simp [binOp,Op.equal,Op.maxDepth,run_equalIn_bool' w 9999 t a b L],.d (.bool _)⟩
  ·rename_i L
   simp only [so_]at hf;subst hf
   exact⟨.bool (!(a==b)),by simp only [Sem.run_bind,B,Result.andThen_ok];simp [binOp,Op.equal,Op.maxDepth,run_equalIn_bool' w 9999 t a b L],.d (.bool _)⟩
  ·cases hf
 ·exact binF_ok I M hf
theorem uG (w:World) (d:Nat) (t:TypeId) {ms} (h:P.underlying t=some (.interface ms)):(Op.equalIn (d+1) t .nilIface .nilIface).run P w = .ok true w:=by
 simp [Op.equalIn,run_underlying h]
theorem Hy {u:Value} {x:V} {b:Bool} (o:RepV G w u x) (h:LC x=some b):∃p,u = .pointer p/\p.isNone=b:=by
 unfold LC at h
 split at h
 ·simp only [so_]at h;subst h
  cases o with
  | ref=>exact⟨_,rfl,rfl⟩
 ·simp only [so_]at h;subst h
  cases o.d_inv with
  | ptr=>exact⟨_,rfl,rfl⟩
 ·simp only [so_]at h;subst h
  cases o.d_inv with
  | nilp=>exact⟨_,rfl,rfl⟩
 ·cases h
theorem ptrF_ok {op:BinOp} {t:TypeId} {ox oy:Operand} {u u':Value} {x y v:V} (I:RepV G w u x) (L:RepV G w u' y) (hf:ptrF P op t x y=some v) :
  ∃r,(do eqGuard op t ox oy u u';binOp op t u u').run P w = .ok r w/\RepV G w r v:=by
 unfold ptrF at hf
 split at hf
 ·rename_i b hb
  obtain ⟨p,rfl,rfl⟩:=Hy I hb
  obtain ⟨J,rfl,B⟩:=Hy L (b:=true) rfl
  cases J with
  | some a=>cases B
  | none =>
  have F:=nC (P:=P) op t ox oy (.pointer p) (.pointer none) (λ_ _ h=>by cases h.1) (λh=>by cases h.1) w
  split at hf
  ·rename_i e A
   have o:P.underlying t=some (.pointer (P.pointee t)):=by rw [A];simp only [Program.pointee,A]
   simp only [so_]at hf;subst hf
   exact⟨_,by simp only [Sem.run_bind,F,Result.andThen_ok,run_eql_pointer_nil w t p o],.d (.bool _)⟩
  ·rename_i e A
   have o:P.underlying t=some (.pointer (P.pointee t)):=by rw [A];simp only [Program.pointee,A]
   simp only [so_]at hf;subst hf
   exact⟨_,by simp only [Sem.run_bind,F,Result.andThen_ok,run_neq_pointer_nil w t p o],.d (.bool _)⟩
  ·cases hf
 ·cases hf
theorem nilF_ok {op:BinOp} {t:TypeId} {ox oy:Operand} {u u':Value} {x y v:V} (A:RepV G w u x) (F:RepV G w u' y) (hf:nilF P op t ox oy x y=some v) :
  ∃r,(do eqGuard op t ox oy u u';binOp op t u u').run P w = .ok r w/\RepV G w r v:=by
 unfold nilF at hf
 split at hf
 ·cases A
  cases F
  have hc:(Dc ox||Dc oy)=true:=by
   cases h:(Dc ox||Dc oy)with
   | true=>rfl
   | false=>rw [h]at hf;cases hf
  rw [hc,cond_true]at hf
  have B:(op matches .eql | .neq)=true->(eqGuard op t ox oy .nilIface .nilIface).run P w = .ok () w:=λho=>by
   cases op <;> first | (cases ho;done) | (cases ox <;> cases oy <;> first | rfl | (cases hc;done))
  split at hf
  ·rename_i I o _
   simp only [so_]at hf;subst hf
   refine⟨.bool true,?_,.d (.bool _)⟩
   simp only [Sem.run_bind,B rfl,Result.andThen_ok]
   simp [binOp,Op.equal,Op.maxDepth,uG w 9999 t o]
  ·rename_i I o _
   simp only [so_]at hf;subst hf
   refine⟨.bool false,?_,.d (.bool _)⟩
   simp only [Sem.run_bind,B rfl,Result.andThen_ok]
   simp [binOp,Op.equal,Op.maxDepth,uG w 9999 t o]
  ·cases hf
 ·exact ptrF_ok A F hf
theorem QS {op:BinOp} {t:TypeId} {ox oy:Operand} {u u':Value} {x y v:V} (h:RepV G w u x) (o:RepV G w u' y) (hf:CY P op t ox oy x y=some v) :
  ∃r,(do eqGuard op t ox oy u u';binOp op t u u').run P w = .ok r w/\RepV G w r v:=by
 unfold CY at hf
 split at hf
 ·rename_i v' A
  simp only [so_]at hf;subst hf
  exact QY h o A
 ·exact nilF_ok h o hf
theorem OP {t:TypeId} {u u':Value} {x i v:V} (B:RepV G w u x) (hi:RepV G w u' i) (hf:Bz P t x i=some v) :
  ∃r,(Instr.index t u u').run P w = .ok r w/\RepV G w r v:=by
 unfold Bz at hf
 split at hf
 ·rename_i s k n h
  rw [B.d_inv.str_inv,hi.d_inv.int_inv]
  cases hn:decide (0<=n)with
  | false=>simp only [hn,cond_false]at hf;cases hf
  | true =>
   have o:=of_decide_eq_true hn
   simp only [hn,cond_true,Option.map_eq_some_iff]at hf
   obtain ⟨b,hb,rfl⟩:=hf
   exact⟨_,by simp only [Instr.index,asIntOf,Sem.run_bind,Sem.run_pure,Result.andThen_ok,aS h,o,if_true,hb],.d (.int _ _)⟩
 ·rename_i n e ds k m h
  split at hf
  ·rename_i size hsz
   cases hc:(decide (0<=m)&&Nat.blt m.toNat n)with
   | false=>simp only [hc,cond_false]at hf;cases hf
   | true =>
    simp only [hc,cond_true]at hf
    simp only [Bool.and_eq_true,decide_eq_true_eq,Nat.blt_eq]at hc
    rw [hi.d_inv.int_inv]
    cases B.d_inv with
    | agg arr _ hl J =>
     obtain ⟨r,h1,h2⟩:=Bg hsz w arr ds (m.toNat*size) hl J hf
     obtain ⟨I,d,F,i2,_⟩:=uR hsz
     have A:(sizeOf e).run P w = .ok size w:=by simp [sizeOf,typeInfo,F,i2]
     refine⟨r,?_,h2⟩
     simp only [Instr.index,asIntOf,Sem.run_bind,Sem.run_pure,Result.andThen_ok,aS h]
     rw [if_pos ⟨hc.1,by omega⟩]
     simp only [Sem.run_bind,A,Result.andThen_ok]
     exact h1
  ·cases hf
 ·cases hf
theorem KS {u:Value} {x v:V} {i:Nat} (h:RepV G w u x) (hf:Af x i=some v):∃r,(Instr.extract u i).run P w = .ok r w/\RepV G w r v:=by
 unfold Af at hf
 split at hf
 ·rename_i vs
  obtain ⟨h1,rfl⟩:=List.getElem?_eq_some_iff.1 hf
  cases h with
  | tup arr _ hl o=>exact⟨arr[i],by simp [Instr.extract,show i<arr.length by omega],o i (by omega) h1⟩
 ·cases hf
theorem Jf {u:Value} {x v:V} (h:RepV G w u x) (hf:yH x=some v) (o:Oper) (ox:Operand) (ρ:Operand->Value) (ho:o.op = .nilCheck ox) (A:ρ ox=u) :
  (execOp ρ o).run P w = .ok (.value u) w/\RepV G w u v:=by
 unfold yH at hf
 split at hf
 ·simp only [so_]at hf;subst hf
  obtain ⟨b,B,sz,h1,rfl⟩:=h.ref_inv
  exact⟨by simp [execOp,ho,A],h⟩
 ·simp only [so_]at hf;subst hf
  refine⟨?_,h⟩
  cases h.d_inv with
  | ptr=>simp [execOp,ho,A]
 ·simp only [so_]at hf;subst hf
  refine⟨?_,h⟩
  cases h with
  | fn=>simp [execOp,ho,A]
  | fnb=>simp [execOp,ho,A]
 ·cases hf
theorem Rk {s t:TypeId} {u:Value} {x v:V} (h:RepV G w u x) (hf:CF P s t x=some v):∃r,(convert s t u).run P w = .ok r w/\RepV G w r v:=by
 unfold CF at hf
 split at hf
 ·rename_i d k k' n hs ht
  simp only [so_]at hf;subst hf
  rw [h.d_inv.int_inv]
  refine⟨.int k (k.wrap n),?_,.d (.int _ _)⟩
  simp only [convert,Sem.run_bind,aS hs,aS ht,Result.andThen_ok]
  cases d <;> rfl
 ·rename_i d o hs ht
  simp only [so_]at hf;subst hf
  rw [h.d_inv.str_inv]
  refine⟨.string o,?_,.d (.str _)⟩
  simp only [convert,Sem.run_bind,aS hs,aS ht,Result.andThen_ok]
  cases d <;> rfl
 ·rename_i d k' n hs ht
  simp only [so_]at hf;subst hf
  rw [h.d_inv.int_inv]
  refine⟨.string (Utf8.encode n),?_,.d (.str _)⟩
  simp only [convert,Sem.run_bind,aS hs,aS ht,Result.andThen_ok]
  rfl
 ·cases hf
theorem lenF_ok {t ty:TypeId} {u:Value} {x v:V} (o:RepV G w u x) (hf:Du P t x=some v):∃r,(Builtin.len_ #[t] ty #[u]).run P w = .ok r w/\RepV G w r v:=by
 unfold Du at hf
 split at hf
 ·rename_i s h
  simp only [so_]at hf;subst hf
  rw [o.d_inv.str_inv]
  exact⟨.int .i64 s.size,by simp [Builtin.len_,aS h,goInt],.d (.int _ _)⟩
 ·rename_i e xs h
  simp only [so_]at hf;subst hf
  rcases o.d_inv.sl_len with⟨a,cap,⟨rfl,_⟩|⟨B,A,rfl,rfl⟩⟩
  ·exact⟨.int .i64 xs.length,by simp [Builtin.len_,aS h,goInt],.d (.int _ _)⟩
  ·exact⟨.int .i64 0,by simp [Builtin.len_,aS h,goInt],.d (.int _ _)⟩
 ·rename_i e h
  simp only [so_]at hf;subst hf
  cases o with
  | nil a=>exact⟨.int .i64 0,by simp [Builtin.len_,aS h,goInt],.d (.int _ _)⟩
 ·rename_i e n sz k len h
  simp only [so_]at hf;subst hf
  cases o with
  | vs0=>exact⟨.int .i64 0,by simp [Builtin.len_,aS h,goInt],.d (.int _ _)⟩
  | vs=>exact⟨.int .i64 len,by simp [Builtin.len_,aS h,goInt],.d (.int _ _)⟩
 ·rename_i e sz len h
  simp only [so_]at hf;subst hf
  cases o.d_inv with
  | wild0=>exact⟨.int .i64 0,by simp [Builtin.len_,aS h,goInt],.d (.int _ _)⟩
  | wild=>exact⟨.int .i64 len,by simp [Builtin.len_,aS h,goInt],.d (.int _ _)⟩
 ·cases hf
theorem Jg {y:Nat} {n:Int} {k:IntKind} (o:0<=n) (h1:n<=y) (h:BoundsCode) (w:World):(Instr.sliceBound (.int k n) y h).run P w = .ok n.toNat w:=by
 simp [Instr.sliceBound,asIntOf,o,h1]
def wY (G:Gh) (w:World):Option Value->Option V->Prop
 | none,none=>True
 | some u,some v=>RepV G w u v
 | _,_=>False
theorem BQ {d l:Nat} {u:Option Value} {v:Option V} (h:wY G w u v) (hf:pz d v=some l) :
  (u=none/\v=none/\l=d)\/∃k n,u=some (.int k n)/\0<=n/\l=n.toNat:=by
 unfold pz at hf
 split at hf
 ·simp only [so_]at hf
  cases u with
  | none=>exact .inl ⟨rfl,rfl,hf.symm⟩
  | some u=>exact h.elim
 ·rename_i k n
  cases u with
  | none=>exact h.elim
  | some u =>
   have:=RepV.d_inv h |>.int_inv
   subst this
   cases hn:decide (0<=n)with
   | false=>simp only [hn,cond_false]at hf;cases hf
   | true =>
    simp only [hn,cond_true,so_]at hf
    exact .inr ⟨k,n,rfl,of_decide_eq_true hn,hf.symm⟩
 ·cases hf
theorem nO {isSlice:Bool} {len cap l h:Nat} {J hi:Option Value} {A B:Option V} (L:wY G w J A) (W:wY G w hi B)
  (hl:pz 0 A=some l) (M:pz len B=some h) (R:l<=h) (O:h<=cap) (F:len<=cap) :
  (Instr.sliceBounds isSlice len cap J hi none).run P w = .ok (l,h,cap) w:=by
 unfold Instr.sliceBounds
 rcases BQ W M with⟨rfl,_,rfl⟩|⟨k,n,rfl,N,rfl⟩
 ·rcases BQ L hl with⟨rfl,_,rfl⟩|⟨k',I,rfl,o,rfl⟩
  ·simp
  ·have e':=Jg (P:=P) (k:=k') o (show I<=(h:Int) by omega)
   simp [e']
 ·have e:=Jg (P:=P) (k:=k) N (show n<=(cap:Int) by omega)
  rcases BQ L hl with⟨rfl,_,rfl⟩|⟨k',I,rfl,o,rfl⟩
  ·simp [e]
  ·have e':=Jg (P:=P) (k:=k') o (show I<=(n.toNat:Int) by omega)
   simp [e,e']
end
end Go.Eng

/-
  THE ENGINE: slices of slices, make, slice literals, append.
-/
namespace Go.Eng
set_option linter.unusedSectionVars false
variable [DM]
variable {P:Program}
section
variable {E:Env} {G:Gh} {w:World} {S:Store} {tk:Nat} {U:Nat->Prop} {dst:Option Nat}
theorem Eb {u:Option Value} {v:Option V} (h:wY G w u v) (o:is0 v=true):∃k,u=some (.int k 0):=by
 unfold is0 at o
 split at o
 ·rename_i k n
  have A:=of_decide_eq_true o
  subst A
  cases u with
  | none=>exact h.elim
  | some u=>exact⟨k,by rw [(RepV.d_inv h).int_inv]⟩
 ·cases o
theorem Me {I hi mx:Option Value} {A F B:Option V} (J:wY G w I A) (O:wY G w hi F) (L:wY G w mx B) (h:xZ A F B=true)
  (isSlice:Bool) (len cap:Nat):(Instr.sliceBounds isSlice len cap I hi mx).run P w = .ok (0,0,0) w:=by
 simp only [xZ,Bool.and_eq_true]at h
 obtain ⟨h1,h2,N⟩:=h
 obtain ⟨k,rfl⟩:=Eb O h2
 obtain ⟨k',rfl⟩:=Eb L N
 have e:∀(k:IntKind) (y:Nat) o,(Instr.sliceBound (.int k 0) y o).run P w = .ok 0 w:=λk y o=>by
  simp [Instr.sliceBound,asIntOf]
 cases A with
 | none =>
  cases I with
  | none=>simp [Instr.sliceBounds,e]
  | some u=>exact J.elim
 | some v =>
  obtain ⟨M,rfl⟩:=Eb J h1
  simp [Instr.sliceBounds,e]
theorem NA {u:Option Value} {v:Option V} {n:Nat} (h:wY G w u v) (o:isN v n=true):∃k,u=some (.int k (n:Int)):=by
 unfold isN at o
 split at o
 ·rename_i k m
  have A:=of_decide_eq_true o
  subst A
  cases u with
  | none=>exact h.elim
  | some u=>exact⟨k,by rw [(RepV.d_inv h).int_inv]⟩
 ·cases o
theorem H7 {I hi mx:Option Value} {A F B:Option V} {n:Nat} (J:wY G w I A) (R:wY G w hi F) (M:wY G w mx B) (h:NF A F B n=true)
  (isSlice:Bool) (len cap:Nat) (hc:n<=cap):(Instr.sliceBounds isSlice len cap I hi mx).run P w = .ok (0,n,n) w:=by
 simp only [NF,Bool.and_eq_true]at h
 obtain ⟨h1,h2,O⟩:=h
 obtain ⟨k,rfl⟩:=NA R h2
 obtain ⟨k',rfl⟩:=NA M O
 have e:∀(k:IntKind) (y:Nat) o,n<=y->(Instr.sliceBound (.int k (n:Int)) y o).run P w = .ok n w:=λk y o W=>by
  simp [Instr.sliceBound,asIntOf];omega
 have L:∀(k:IntKind) (y:Nat) o,(Instr.sliceBound (.int k 0) y o).run P w = .ok 0 w:=λk y o=>by
  simp [Instr.sliceBound,asIntOf]
 cases A with
 | none =>
  cases I with
  | none=>simp [Instr.sliceBounds,e _ _ _ hc,e _ _ _ (Nat.le_refl n)]
  | some u=>exact J.elim
 | some v =>
  obtain ⟨N,rfl⟩:=Eb J h1
  simp [Instr.sliceBounds,e _ _ _ hc,e _ _ _ (Nat.le_refl n),L]
theorem ng {t e:TypeId} (o:P.underlying t=some (.slice e)) (u:Value) (h hi mx:Option Value) (w:World):(Instr.sliceAt t u h hi mx).run P w=(Instr.slice t u h hi mx).run P w:=by
 simp only [Instr.sliceAt,Sem.run_bind,aS o,Result.andThen_ok]
theorem Po {t:TypeId} {u:Value} {x v:V} {lo hi mx:Option Value} {I J vmx:Option V} (R:RepV G w u x) (M:wY G w lo I) (O:wY G w hi J) (rm:wY G w mx vmx)
  (hf:lg P t x I J vmx=some v):∃r,(Instr.sliceAt t u lo hi mx).run P w = .ok r w/\RepV G w r v:=by
 unfold lg at hf
 split at hf
 ·have hm:mx=none:=by
   cases mx with
   | none=>rfl
   | some _=>exact rm.elim
  subst hm
  split at hf
  ·rename_i s A
   split at hf
   ·rename_i l h hl N
    split at hf
    ·rename_i hc
     simp only [so_]at hf;subst hf
     rw [R.d_inv.str_inv]
     have hb:=nO (P:=P) (isSlice:=false) M O hl N hc.1 hc.2 (Nat.le_refl _)
     refine⟨.string (s.extract l h),?_,.d (.str _)⟩
     simp only [Instr.sliceAt,Sem.run_bind,aS A,Result.andThen_ok,Instr.slice]
     simp only [Option.isSome_none,Bool.false_eq_true,if_false,Sem.run_bind,Sem.run_pure,Result.andThen_ok,hb]
    ·cases hf
   ·cases hf
  ·rename_i e xs A
   split at hf
   ·rename_i size l h hsz hl N
    split at hf
    ·rename_i hc
     simp only [so_]at hf;subst hf
     rw [ng A]
     have B:((xs.take h).drop l).length=h-l:=by simp;omega
     have W:∀i (hi:i<xs.length),xs[i].length=size:=λi hi=>Nat.eq_of_beq_eq_true (List.all_eq_true.1 hc.2.2 _ (List.getElem_mem hi))
     cases R.d_inv with
     | sl0 a cap =>
      have Y:h=0:=by simpa using hc.2.1
      have X:l=0:=by omega
      subst Y X
      have hb:=nO (P:=P) (isSlice:=true) (len:=0) (cap:=cap) M O hl N (Nat.le_refl _) (Nat.zero_le _) (Nat.zero_le _)
      exact⟨_,by simp only [Instr.slice,Sem.run_bind,aS A,Result.andThen_ok,hb,run_sizeOf hsz,Sem.run_pure];rfl,.d (.sl0 _ _)⟩
     | sl b off cap sz _ us hcap hs hI F L hr =>
      have hb:=nO (P:=P) (isSlice:=true) (len:=xs.length) (cap:=cap) M O hl N hc.1 (by omega) hcap
      refine⟨.slice (if cap=l then some ⟨b,off,none⟩else some ⟨b,off+l*size,none⟩) (h-l) (cap-l),?_,.d ?_⟩
      ·simp only [Instr.slice,Sem.run_bind,aS A,Result.andThen_ok,hb,run_sizeOf hsz,Sem.run_pure,Option.map_some,addr_add]
      ·by_cases hz:h-l=0
       ·have e0:(xs.take h).drop l=[]:=by rw [<- List.length_eq_zero_iff,B];exact hz
        rw [e0,hz]
        exact .sl0 _ _
       ·rw [if_neg (by omega),<- B]
        have Z:sz=size:=by rw [<- hs 0 (by omega),W 0 (by omega)]
        subst Z
        refine .sl b (off+l*sz) (cap-l) sz _ (λi j=>us (l+i) j) (by rw [B];omega) (λi hi => ?_) (λi j hi hj => ?_) (λi j hi hj => ?_) (λi j hi hj=>L _ j (by rw [B]at hi;omega) hj) (λi j hi hj => ?_)
        ·rw [List.getElem_drop,List.getElem_take];exact W _ (by rw [B]at hi;omega)
        ·rw [B]at hi
         have:=hI (l+i) j (by omega) hj
         rwa [Nat.add_mul,<- Nat.add_assoc]at this
        ·rw [B]at hi
         have:=F (l+i) j (by omega) hj
         rwa [Nat.add_mul,<- Nat.add_assoc]at this
        ·rw [B]at hi
         simp only [List.getElem_drop,List.getElem_take]at hj ⊢
         exact hr (l+i) j (by omega) hj
    ·cases hf
   ·cases hf
  ·rename_i e n sz k len A
   split at hf
   ·rename_i size l h hsz hl N
    split at hf
    ·rename_i hc
     simp only [so_]at hf;subst hf
     obtain ⟨hc1,hc2,rfl⟩:=hc
     rw [ng A]
     cases R with
     | vs0 _ _ _ a =>
      have Y:h=0:=by omega
      have X:l=0:=by omega
      subst Y X
      have hb:=nO (P:=P) (isSlice:=true) (len:=0) (cap:=0) M O hl N (Nat.le_refl _) (Nat.le_refl _) (Nat.le_refl _)
      exact⟨_,by simp only [Instr.slice,Sem.run_bind,aS A,Result.andThen_ok,hb,run_sizeOf hsz,Sem.run_pure];rfl,.vs0 _ _ _ _⟩
     | vs _ _ cap hmu hcap hbd =>
      rename_i b o
      have hb:=nO (P:=P) (isSlice:=true) (len:=len) (cap:=cap) M O hl N hc1 (by omega) hcap
      refine⟨.slice (if cap=l then some ⟨b,o+k*size,none⟩else some ⟨b,o+k*size+l*size,none⟩) (h-l) (cap-l),?_,?_⟩
      ·simp only [Instr.slice,Sem.run_bind,aS A,Result.andThen_ok,hb,run_sizeOf hsz,Sem.run_pure,Option.map_some,addr_add]
      ·by_cases hz:cap=l
       ·rw [if_pos hz]
        have e1:h-l=0:=by omega
        have e2:cap-l=0:=by omega
        rw [e1,e2]
        exact .vs0 _ _ _ _
       ·rw [if_neg hz,Nat.add_assoc,<- Nat.add_mul]
        exact .vs (k+l) (h-l) (cap-l) hmu (by omega) (by rw [show k+l+(cap-l)=k+cap by omega];exact hbd)
    ·cases hf
   ·cases hf
  ·rename_i e A
   split at hf
   ·rename_i size l h hsz hl N
    split at hf
    ·rename_i hc
     simp only [so_]at hf;subst hf
     obtain ⟨rfl,rfl⟩:=hc
     rw [ng A]
     cases R with
     | nil a =>
      have hb:=nO (P:=P) (isSlice:=true) (len:=0) (cap:=0) M O hl N (Nat.le_refl _) (Nat.le_refl _) (Nat.le_refl _)
      exact⟨_,by simp only [Instr.slice,Sem.run_bind,aS A,Result.andThen_ok,hb,run_sizeOf hsz,Sem.run_pure];rfl,.nil _⟩
    ·cases hf
   ·cases hf
  ·cases hf
 ·rename_i vm
  have done:∀{e:TypeId} {a:Option Addr} {len cap:Nat},P.underlying t=some (.slice e)->(∃s,szT P e=some s)->u = .slice a len cap->xZ I J (some vm)=true ->
    ∃r,(Instr.sliceAt t u lo hi mx).run P w = .ok r w/\RepV G w r .nil:=by
   rintro e a len cap A ⟨s,hs⟩ rfl h3
   rw [ng A]
   have hb:=Me (P:=P) M O rm h3 true len cap
   exact⟨_,by simp only [Instr.slice,Sem.run_bind,aS A,Result.andThen_ok,hb,run_sizeOf hs,Sem.run_pure];rfl,.nil _⟩
  have shape:∀{e:TypeId},P.underlying t=some (.slice e)->(∃a len cap,u = .slice a len cap)->(match szT P e with
   | some _=>bif xZ I J (some vm)then some V.nil else Option.none
   | Option.none=>Option.none)=some v->∃r,(Instr.sliceAt t u lo hi mx).run P w = .ok r w/\RepV G w r v:=by
   rintro e A ⟨a,len,cap,rfl⟩ h3
   split at h3
   ·rename_i s hs
    cases h4:xZ I J (some vm)with
    | true =>
     simp only [h4,cond_true,so_]at h3
     subst h3
     exact done A ⟨s,hs⟩ rfl h4
    | false=>simp only [h4,cond_false]at h3;cases h3
   ·cases h3
  split at hf
  ·rename_i e xs A
   split at hf
   ·rename_i s hs
    cases h4:xZ I J (some vm)with
    | true =>
     rw [h4,cond_true,so_]at hf
     subst hf
     cases R.d_inv with
     | sl0 a cap=>exact done A ⟨s,hs⟩ rfl h4
     | sl=>exact done A ⟨s,hs⟩ rfl h4
    | false =>
     rw [h4,cond_false]at hf
     cases h5:NF I J (some vm) xs.length with
     | false=>rw [h5]at hf;cases hf
     | true =>
      rw [h5,cond_true,so_]at hf
      subst hf
      rw [ng A]
      cases R.d_inv with
      | sl0 a cap =>
       have hb:=H7 (P:=P) M O rm h5 true 0 cap (Nat.zero_le _)
       exact⟨_,by simp only [Instr.slice,Sem.run_bind,aS A,Result.andThen_ok,hb,run_sizeOf hs,Sem.run_pure];rfl,.d (.sl0 _ _)⟩
      | sl b off cap sz _ us hcap hs' hI F L hr =>
       have hb:=H7 (P:=P) M O rm h5 true xs.length cap hcap
       refine⟨.slice (some ⟨b,off,none⟩) xs.length xs.length,?_,.d (.sl b off xs.length sz _ us (Nat.le_refl _) hs' hI F L hr)⟩
       simp only [Instr.slice,Sem.run_bind,aS A,Result.andThen_ok,hb,run_sizeOf hs,Sem.run_pure,Option.map_some,addr_add,Nat.zero_mul,Nat.add_zero,Nat.sub_zero,ite_self]
   ·cases hf
  ·rename_i e n sz k len A
   refine shape A ?_ hf
   cases R with
   | vs0=>exact⟨_,_,_,rfl⟩
   | vs=>exact⟨_,_,_,rfl⟩
  ·rename_i e A
   refine shape A ?_ hf
   cases R with
   | nil a=>exact⟨_,_,_,rfl⟩
  ·cases hf
end
end Go.Eng

/-
  THE ENGINE: new rows of elements: make, slice literals, append.
-/
namespace Go.Eng
set_option linter.unusedSectionVars false
variable [DM]
variable {P:Program}
section
variable {E:Env} {G:Gh} {w:World} {S:Store} {tk:Nat} {U:Nat->Prop} {dst:Option Nat}
theorem all_vec (sz:Nat) (xs:List (List D)):(Box.vec sz xs).all=(xs.map λx=>x.map V.d).flatten:=rfl
theorem Kb {xs:List (List D)} {sz:Nat} (h:∀x∈xs,x.length=sz):∀x∈xs.map (λx=>x.map V.d),x.length=sz:=by
  intro x o
  obtain ⟨y,A,rfl⟩:=List.mem_map.1 o
  rw [List.length_map];exact h y A
theorem Bc {xs:List (List D)} {sz:Nat} (h:∀x∈xs,x.length=sz):(Box.vec sz xs).all.length=xs.length*sz:=by
  rw [all_vec,qf sz _ (Kb h)];simp
theorem EC {xs:List (List D)} {sz:Nat} (h:∀x∈xs,x.length=sz) (k:Nat) (I:k<(Box.vec sz xs).all.length) :
    ∃(hi:k / sz<xs.length) (hj:k % sz<xs[k / sz].length),(Box.vec sz xs).all[k] = .d xs[k / sz][k % sz]:=by
  have o:=Bc h
  have A:k<xs.length*sz:=o ▸ I
  have F:0<sz:=by
    rcases Nat.eq_zero_or_pos sz with B|B
    · subst B;simp at A
    · exact B
  have hi:k / sz<xs.length:=(Nat.div_lt_iff_lt_mul F).2 A
  have hl:xs[k / sz].length=sz:=h _ (List.getElem_mem hi)
  have hj:k % sz<xs[k / sz].length:=by rw [hl];exact Nat.mod_lt _ F
  refine⟨hi,hj,?_⟩
  obtain ⟨h1,h2⟩:=flat_get sz _ (Kb h) (k / sz) (k % sz) (by simpa using hi) (by simpa using hj)
  have e:k / sz*sz+k % sz=k:=Nat.div_add_mod' k sz
  have:(Box.vec sz xs).all[k]? = some (.d xs[k / sz][k % sz]):=by
    have J:((xs.map λx=>x.map V.d).flatten)[k / sz*sz+k % sz]? = some (.d xs[k / sz][k % sz]):=by
      rw [List.getElem?_eq_getElem h1,h2];simp
    rw [e]at J
    exact J
  rw [List.getElem?_eq_getElem I]at this
  exact Option.some.inj this
theorem EI {G':Gh} {w':World} {b o sz:Nat} {arr:Array Value} {elem:TypeId} {xs:List (List D)} (hb:w'.heap[b]? = some (.cells arr elem (0,0)))
    (A:∀x∈xs,x.length=sz) (B:o+xs.length*sz<=arr.size) (h:∀I,¬G'.imm b I)
    (F:∀i j (hi:i<xs.length) (hj:j<xs[i].length),∃u,arr[o+(i*sz+j)]? = some u/\u.oneCell'=true/\RepD G'.imm w' u xs[i][j]):Stands G' w' (.vec sz xs) b o sz where
  sz:=rfl
  even:=A
  room:=by rw [Bc A,aV hb];exact B
  cell k hk:=by
    obtain ⟨hi,hj,e⟩:=EC A k hk
    obtain ⟨u,h1,ho,h2⟩:=F _ _ hi hj
    rw [Nat.div_add_mod']at h1
    exact⟨u,by rw [cell_of_row hb];exact h1,ho,by rw [e];exact .d h2⟩
  free _:=⟨⟨arr,elem,hb⟩,h⟩
  froz hx:=by simp [Box.mut]at hx
theorem sS (h:Inv E G w S tk U) {dst:Nat} (I:¬U dst) (elem:TypeId) (arr:Array Value) {sz:Nat} {xs:List (List D)} (B:∀x∈xs,x.length=sz)
    (o:xs.length*sz<=arr.size) (J:∀i j (hi:i<xs.length) (hj:j<xs[i].length),∃u,arr[i*sz+j]? = some u/\u.oneCell'=true/\RepD G.imm w u xs[i][j]) :
    Inv E ⟨G.imm,λm=>if m=(dst,tk)then some (w.heap.size,0,sz)else G.mu m⟩ (w.alloc (.cells arr elem)) (supd S (dst,tk) (some (.vec sz xs))) tk (λu=>U u\/u=dst) /\
    Ext G w ⟨G.imm,λm=>if m=(dst,tk)then some (w.heap.size,0,sz)else G.mu m⟩ (w.alloc (.cells arr elem)) :=
  h.allocBox dst I (.cells arr elem) (.vec sz xs) (λG' A e=>by
    have hs:Stands G' (w.alloc (.cells arr elem)) (.vec sz xs) w.heap.size 0 sz :=
      EI (gq w _) B (by simpa using o) (λL F=>Nat.lt_irrefl _ (h.immB _ _ ((A _ _).1 F)))
        (λi j hi hj=>by
          obtain ⟨u,h1,ho,h2⟩:=J i j hi hj
          exact⟨u,by simpa using h1,ho,h2.ext e.imm e.cell e.still e.sizeI⟩)
    exact hs)
theorem Inv.drew (h:Inv E G w S tk U):Inv E G w.drew S tk U/\Ext G w G w.drew :=
  h.more (λ_ _=>rfl) (Nat.le_refl _) rfl rfl rfl (λ_ _ h=>h) (λ_ _ h => .inl h) rfl (λ_ h=>h)
theorem dH.of {s:Sem Value} {u:Value} {w':World} {G':Gh} {A:Eff} (h:s.run P w = .ok u w') (e:Ext G w G' w')
    (hi:Inv E G' w' (dn S A.upd) tk (λn=>U n\/dst=some (n % 100000))) (o:RepV G' w' u A.val):dH P E (do pure (.value (<- s))) dst G w S tk U A :=
  ⟨.value u,u,w',G',by simp only [Sem.run_bind,h,Result.andThen_ok,Sem.run_pure],.inl rfl,e,hi,o⟩
theorem JS (z:Array Value) (n i:Nat) (h:i<n):((Array.range n).map (λk=>z[k % z.size]!))[i]? = some (z[i % z.size]!):=by
  simp [h]
theorem Ew (G:Gh) (w:World) {l:List Value} {ds:List D} (h:F5 (l.map pg)=some ds):l.length=ds.length/\∀i (h1:i<l.length) (h2:i<ds.length),RepD G.imm w l[i] ds[i]:=by
  have e:=Cq h
  have hl:l.length=ds.length:=by have:=congrArg List.length e;simpa using this
  refine⟨hl,λi h1 h2 => ?_⟩
  have e1:(l.map pg)[i]? = (ds.map V.d)[i]? := by rw [e]
  rw [List.getElem?_map,List.getElem?_map,List.getElem?_eq_getElem h1,List.getElem?_eq_getElem h2]at e1
  have e2:pg l[i] = .d ds[i]:=Option.some.inj e1
  have:=mf G w l[i]
  rw [e2]at this
  exact this.d_inv
theorem wrap_small {n:Int} (h:0<=n) (h1:n<=2 ^ 48):IntKind.i64.wrap n=n:=by
  have e:n % (18446744073709551616:Int)=n:=Int.emod_eq_of_lt h (by omega)
  have e2:¬((9223372036854775808:Int)<=n):=by omega
  simp [IntKind.wrap,IntKind.bits,IntKind.signed,e,e2]
theorem tT {e:TypeId} {size:Nat} (h:szT P e=some size):∃i,P.info? e=some i/\i.bytes=bytesT P e/\i.size=size:=by
  obtain ⟨i,d,h1,h2,_⟩:=uR h
  exact⟨i,h1,by simp [bytesT,h1],h2⟩
theorem jc {e:TypeId} {z:List V} (h:zeroCells P e=some z):∃o,(P.info? e).bind (·.zero)=some o/\z=o.cells.toList.map pg:=by
  simp only [zeroCells,Option.map_eq_some_iff]at h
  obtain ⟨o,h1,rfl⟩:=h
  exact⟨o,h1,rfl⟩
theorem run_makeSlice {t e:TypeId} (F:P.underlying t=some (.slice e)) {size:Nat} (hsz:szT P e=some size) {A:Value} (L:(P.info? e).bind (·.zero)=some A)
    {k k':IntKind} {n:Int} (M:0<=n) (h1:n*bytesT P e<=2 ^ 48) (h2:n<=2 ^ 48) (N:0<size) (w:World) :
    ∃arr:Array Value,(Instr.makeSlice t (.int k n) (.int k' n)).run P w = .ok (.slice (some ⟨w.heap.size,0,none⟩) n.toNat n.toNat) (w.alloc (.cells arr e)) /\
      arr=(Array.range (n.toNat*size)).map (λi=>A.cells[i % A.cells.size]!):=by
  obtain ⟨i,J,i2,i3⟩:=tT hsz
  refine⟨_,?_,rfl⟩
  have I:=wrap_small M h2
  have hb:¬((281474976710656:Int)<(i.bytes:Int)*n):=by rw [i2,Int.mul_comm];omega
  have o:¬n<0:=by omega
  by_cases hnz:n.toNat*size=0
  · have B:n.toNat=0:=by
      rcases Nat.mul_eq_zero.1 hnz with h|h
      · exact h
      · omega
    simp [Instr.makeSlice,aS F,asInt,asIntOf,typeInfo,J,I,hb,o,run_sizeOf hsz,B,l9,show Array.range 0 = #[] from rfl]
  · simp [Instr.makeSlice,aS F,asInt,asIntOf,typeInfo,J,I,hb,o,run_sizeOf hsz,hnz,kL L,l9]
theorem Ej {t e:TypeId} (I:P.underlying t=some (.slice e)) {size:Nat} (hsz:szT P e=some size) {B:Value} (M:(P.info? e).bind (·.zero)=some B)
    {k k':IntKind} {n:Int} (N:0<=n) (h1:n*bytesT P e<=2 ^ 48) (h2:n<=2 ^ 48) (O:0<size) (w:World) :
    ∃arr:Array Value,(Instr.makeSlice t (.int k 0) (.int k' n)).run P w = .ok (.slice (some ⟨w.heap.size,0,none⟩) 0 n.toNat) (w.alloc (.cells arr e))/\arr.size=n.toNat*size:=by
  obtain ⟨i,L,i2,i3⟩:=tT hsz
  have J:=wrap_small N h2
  have A:IntKind.i64.wrap 0=0:=wrap_small (by omega) (by omega)
  have hb:¬((281474976710656:Int)<(i.bytes:Int)*n):=by rw [i2,Int.mul_comm];omega
  have o:¬n<0:=by omega
  refine⟨(Array.range (n.toNat*size)).map (λi=>B.cells[i % B.cells.size]!),?_,by simp⟩
  by_cases hnz:n.toNat*size=0
  · have F:n.toNat=0:=by
      rcases Nat.mul_eq_zero.1 hnz with h|h
      · exact h
      · omega
    simp [Instr.makeSlice,aS I,asInt,asIntOf,typeInfo,L,J,A,hb,o,run_sizeOf hsz,F,l9,show Array.range 0 = #[] from rfl]
  · simp [Instr.makeSlice,aS I,asInt,asIntOf,typeInfo,L,J,A,hb,o,run_sizeOf hsz,hnz,kL M,l9]
theorem Gl (h:Inv E G w S tk U) {d:Nat} (X:d<100000) (hd:¬U d) {t:TypeId} {u u':Value} {l c:V} {A:Eff} (hl:RepV G w u l) (hc:RepV G w u' c) (hf:rX P t l c d tk=some A) :
    dH P E (do pure (.value (<- Instr.makeSlice t u u'))) (some d) G w S tk U A:=by
  unfold rX at hf
  split at hf
  · rename_i e k n k' m he
    have hu:=jf he
    rw [hl.d_inv.int_inv,hc.d_inv.int_inv]
    split at hf
    · rename_i size z hsz hz
      split at hf
      · rename_i B
        obtain ⟨rfl,h0,h1,h2,hzl,J⟩:=B
        obtain ⟨I,R,rfl⟩:=jc hz
        obtain ⟨arr,F,o⟩:=Ej (P:=P) (k:=k) (k':=k') hu hsz R h0 h1 h2 J w
        simp only [so_]at hf;subst hf
        obtain ⟨Z,a2⟩:=sS h hd e arr (sz:=size) (xs:=[]) (λx hx=>by cases hx) (by simp) (λi j hi hj=>absurd hi (by simp))
        refine dH.of F a2 (Z.mono (λn hn=>hn.imp id (λe=>by rw [e,Nat.mod_eq_of_lt X]))) ?_
        have:(⟨w.heap.size,0,none⟩:Addr)=⟨w.heap.size,0+0*size,none⟩:=by simp
        rw [this]
        exact .vs 0 _ _ (by simp) (Nat.zero_le _) (by rw [aV (gq w _),o];simp)
      split at hf
      · rename_i B
        obtain ⟨h0,rfl,h1,h2,hzl,J,N⟩:=B
        obtain ⟨I,R,rfl⟩:=jc hz
        obtain ⟨arr,F,M⟩:=run_makeSlice (P:=P) (k:=k) (k':=k') hu hsz R h0 h1 h2 J w
        have W:I.cells.size=size:=by simpa using hzl
        have o:arr.size=n.toNat*size:=by rw [M];simp
        split at hf
        · rename_i ds hds
          simp only [so_]at hf;subst hf
          obtain ⟨q1,q2⟩:=Ew G w hds
          have q1':I.cells.size=ds.length:=by simpa using q1
          obtain ⟨Z,a2⟩:=sS h hd e arr (sz:=size) (xs:=List.replicate n.toNat ds) (λx hx=>by rw [(List.mem_replicate.1 hx).2,<- q1',W]) (by simp [o]) (λi j hi hj=>by
            simp only [List.length_replicate]at hi
            simp only [List.getElem_replicate]at hj ⊢
            have hj':j<size:=by omega
            have hlt:i*size+j<n.toNat*size:=Nat.lt_of_lt_of_le (by omega:i*size+j<i*size+size) (by rw [<- Nat.succ_mul];exact Nat.mul_le_mul_right _ hi)
            have L:∀k (hk:k<I.cells.toList.length),(I.cells.toList[k]).oneCell'=true:=λk hk =>
              (mf G w _).oneCell (List.all_eq_true.1 N _ (List.mem_map.2 ⟨_,List.getElem_mem hk,rfl⟩))
            refine⟨I.cells[j]!,?_,by rw [getElem!_pos I.cells j (show j<I.cells.size by omega)];exact L j (by simp;omega),?_⟩
            · rw [M,JS _ _ _ hlt,W,Nat.mul_add_mod',Nat.mod_eq_of_lt hj']
            · have:=q2 j (by simp;omega) hj
              simpa [getElem!_pos,show j<I.cells.size by omega]using this)
          refine dH.of F a2 (Z.mono (λn hn=>hn.imp id (λe=>by rw [e,Nat.mod_eq_of_lt X]))) ?_
          have:(⟨w.heap.size,0,none⟩:Addr)=⟨w.heap.size,0+0*size,none⟩:=by simp
          rw [this]
          exact .vs 0 _ _ (by simp) (Nat.le_refl _) (by rw [aV (gq w _),o];simp)
        · split at hf
          · rename_i L
            subst L
            simp only [so_]at hf;subst hf
            have hz1:I.cells.toList.length=1:=by simpa using W
            obtain ⟨c0,Y⟩:=List.length_eq_one_iff.1 hz1
            have O:I.cells = #[c0]:=by apply Array.ext';exact Y
            have hlen:((List.replicate n.toNat ((I.cells.toList.map pg).headD .any))).length=n.toNat:=by simp
            obtain ⟨Z,a2⟩:=h.allocBox d hd (.cells arr e) (.cells 1 (List.replicate n.toNat ((I.cells.toList.map pg).headD .any))) (λG' hG' e'=>by
              have hb:=gq w (.cells arr e)
              have hs:Stands G' (w.alloc (.cells arr e)) (.cells 1 (List.replicate n.toNat ((I.cells.toList.map pg).headD .any))) w.heap.size 0 1 :=
                { sz:=rfl,even:=trivial
                  room:=by rw [aV hb,o];simp [Box.all]
                  cell:=λj hj=>by
                    have hj':j<n.toNat:=by simpa [Box.all]using hj
                    refine⟨c0,?_,(mf G w c0).oneCell (List.all_eq_true.1 N _ (List.mem_map.2 ⟨c0,by rw [Y];simp,rfl⟩)),?_⟩
                    · rw [cell_of_row hb,Nat.zero_add,M,JS _ _ _ (by omega),O];simp [Nat.mod_one]
                    · simp only [Box.all,List.getElem_replicate,O,List.map_cons,List.headD_cons]
                      exact mf _ _ c0
                  free:=λ_=>⟨⟨arr,e,hb⟩,λo' ho'=>Nat.lt_irrefl _ (h.immB _ _ ((hG' _ _).1 ho'))⟩
                  froz:=λhx=>by simp [Box.mut]at hx
                  cel:=⟨λ_=>rfl,λhs=>absurd hs (by decide)⟩ }
              exact hs)
            refine dH.of F a2 (Z.mono (λn hn=>hn.imp id (λe=>by rw [e,Nat.mod_eq_of_lt X]))) ?_
            have:(⟨w.heap.size,0,none⟩:Addr)=⟨w.heap.size,0+0*1,none⟩:=by simp
            rw [this]
            exact .vs 0 _ _ (by simp [Box.sz]) (Nat.le_refl _) (by rw [aV (gq w _),o];simp)
          · cases hf
      · cases hf
    · cases hf
  · cases hf
end
end Go.Eng

