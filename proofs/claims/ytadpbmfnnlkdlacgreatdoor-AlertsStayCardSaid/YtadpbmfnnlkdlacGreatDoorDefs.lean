/-
  The functions of the program, as plain functions over data (written by a program of ours).
-/
import Derived.Test.YtadpbmfnnlkdlacGreatDoorEng5
open Go Go.Eng
namespace Go.Proofs.YtadpbmfnnlkdlacGreatDoor.Law
set_option maxRecDepth 100000
set_option linter.unusedVariables false
set_option maxHeartbeats 1000000
structure Stream where
  L:(List Int)
  f_at:Int
def Stream.enc (s:Stream):List D:=[dl eI s.L,.int .i64 s.f_at]

structure Rect where
  X:Int
  Y:Int
  W:Int
  H:Int
def Rect.enc (s:Rect):List D:=[.int .i64 s.X,.int .i64 s.Y,.int .i64 s.W,.int .i64 s.H]
abbrev Rect.v (s:Rect):List V:=[(vI s.X),(vI s.Y),(vI s.W),(vI s.H)]

structure Alert where
  Id:ByteArray
  Sender:ByteArray
  Kind:Int
  Refs:(List ByteArray)
  At:Int
  Until:Int
  Weight:Int
  Areas:(List Rect)
  Text:ByteArray
def Alert.enc (s:Alert):List D:=[.str s.Id,.str s.Sender,.int .i64 s.Kind,dl eS s.Refs,.int .i64 s.At,.int .i64 s.Until,.int .i64 s.Weight,dl Rect.enc s.Areas,.str s.Text]
abbrev Alert.v (s:Alert):List V:=[(vS s.Id),(vS s.Sender),(vI s.Kind),(vL eS s.Refs),(vI s.At),(vI s.Until),(vI s.Weight),(vL Rect.enc s.Areas),(vS s.Text)]

structure Post where
  Player:ByteArray
  X:Int
  Y:Int
def Post.enc (s:Post):List D:=[.str s.Player,.int .i64 s.X,.int .i64 s.Y]
abbrev Post.v (s:Post):List V:=[(vS s.Player),(vI s.X),(vI s.Y)]

structure Receipt where
  Player:ByteArray
  Alert:ByteArray
  At:Int
  Seen:Bool
def Receipt.enc (s:Receipt):List D:=[.str s.Player,.str s.Alert,.int .i64 s.At,.bool s.Seen]
abbrev Receipt.v (s:Receipt):List V:=[(vS s.Player),(vS s.Alert),(vI s.At),(vB s.Seen)]

def Alert.encW (s:Alert):List D:=[.str s.Id,.str s.Sender,.int .i64 s.Kind,.wild 1 s.Refs.length,.int .i64 s.At,.int .i64 s.Until,.int .i64 s.Weight,.wild 4 s.Areas.length,.str s.Text]

structure Debt where
  Player:ByteArray
  Alert:ByteArray
  Due:Int
  Got:Int
def Debt.enc (s:Debt):List D:=[.str s.Player,.str s.Alert,.int .i64 s.Due,.int .i64 s.Got]
abbrev Debt.v (s:Debt):List V:=[(vS s.Player),(vS s.Alert),(vI s.Due),(vI s.Got)]

structure Pair where
  f_player:ByteArray
  f_alert:ByteArray
def Pair.enc (s:Pair):List D:=[.str s.f_player,.str s.f_alert]

structure Pair_ where
  Name:ByteArray
  Value:ByteArray
def Pair_.enc (s:Pair_):List D:=[.str s.Name,.str s.Value]

structure Run where
  f_from:Int
  f_to:Int
def Run.enc (s:Run):List D:=[.int .i64 s.f_from,.int .i64 s.f_to]

structure Entry where
  Key:ByteArray
  Item:ByteArray
  Version:Int
  First:Int
  Last:Int
  Every:Int
  Days:Int
  Except:(List Int)
  From:Int
  To:Int
  Prio:Int
  Tags:(List ByteArray)
  Gone:Bool
def Entry.enc (s:Entry):List D:=[.str s.Key,.str s.Item,.int .i64 s.Version,.int .i64 s.First,.int .i64 s.Last,.int .i64 s.Every,.int .i64 s.Days,dl eI s.Except,.int .i64 s.From,.int .i64 s.To,.int .i64 s.Prio,dl eS s.Tags,.bool s.Gone]
abbrev Entry.v (s:Entry):List V:=[(vS s.Key),(vS s.Item),(vI s.Version),(vI s.First),(vI s.Last),(vI s.Every),(vI s.Days),(vL eI s.Except),(vI s.From),(vI s.To),(vI s.Prio),(vL eS s.Tags),(vB s.Gone)]

structure Window where
  From:Int
  To:Int
def Window.enc (s:Window):List D:=[.int .i64 s.From,.int .i64 s.To]

structure Campaign where
  Key:ByteArray
  Class:ByteArray
  Time:Window
  Tags:(List ByteArray)
  Goal:Int
  Most:Int
  Cents:Int
def Campaign.enc (s:Campaign):List D:=[.str s.Key,.str s.Class,.int .i64 s.Time.From,.int .i64 s.Time.To,dl eS s.Tags,.int .i64 s.Goal,.int .i64 s.Most,.int .i64 s.Cents]
abbrev Campaign.v (s:Campaign):List V:=[(vS s.Key),(vS s.Class),(vI s.Time.From),(vI s.Time.To),(vL eS s.Tags),(vI s.Goal),(vI s.Most),(vI s.Cents)]

structure Beat where
  Player:ByteArray
  At:Int
  Clock:Int
def Beat.enc (s:Beat):List D:=[.str s.Player,.int .i64 s.At,.int .i64 s.Clock]
abbrev Beat.v (s:Beat):List V:=[(vS s.Player),(vI s.At),(vI s.Clock)]

structure Beat_ where
  f_from:Int
  f_to:Int
def Beat_.enc (s:Beat_):List D:=[.int .i64 s.f_from,.int .i64 s.f_to]

def wG (d:Int) (a:Int):Option (Int) :=
  bif (decide (a<1))then some 0 else (Nf .i64 d a).bind λb=>(bif (decide (b<0))then some (w64 (b+a))else some b).bind λc=>some c
def jh (a:Stream) (b:Int):Option (Int×Stream) :=
  bif ((a.L.length:Int)==0)then (wG (w64 ((w64 (a.f_at+1))*7919)) b).bind λg=>some (g,(⟨a.L,(w64 (a.f_at+1))⟩:Stream))else (Nf .i64 (w64 ((w64 (a.f_at+1))-1)) (a.L.length:Int)).bind λc=>(OD .i64 (w64 ((w64 (a.f_at+1))-1)) (a.L.length:Int)).bind λd=>(idx a.L c).bind λh=>(wG h 1073741824).bind λe=>(wG (w64 (e+(w64 (d*(w64 (7919+c)))))) b).bind λf=>some (f,(⟨a.L,(w64 (a.f_at+1))⟩:Stream))
def dn (d:Stream) (a:Int) (b:Int):Option (Int×Stream) :=
  bif (decide (b<a))then some (a,d)else (jh d (w64 ((w64 (b-a))+1))).bind λc=>some ((w64 (a+c.1)),c.2)
def iH (c:Stream) (a:(List ByteArray)):Option (ByteArray×Stream) :=
  (jh c (a.length:Int)).bind λb=>(idx a b.1).bind λd=>some (d,b.2)
def jQ (c:Stream) (a:(List Int)):Option (Int×Stream) :=
  (jh c (a.length:Int)).bind λb=>(idx a b.1).bind λd=>some (d,b.2)
def je (c:Stream) (b:Int):Option (Bool×Stream) :=
  (jh c b).bind λa=>some ((a.1==0),a.2)
def ko (e:Stream):Option (Rect×Stream) :=
  (dn e (-2) 8).bind λb=>(dn b.2 (-2) 8).bind λc=>(dn c.2 1 5).bind λd=>(dn d.2 1 5).bind λa=>some ((⟨b.1,c.1,d.1,a.1⟩:Rect),a.2)
def nJ (a:Alert) (b:Alert):Option (Int) :=
  bif (a.At != b.At)then some (w64 (a.At-b.At))else bif (sLt a.Id b.Id)then some (-1)else some 1
def uD (c:Int):Option (Int) :=
  (bif (decide (c>=4294967296))then (Qu .u64 c 32).bind λh=>some (h,32)else some (c,0)).bind λa=>(bif (decide (a.1>=65536))then (Qu .u64 a.1 16).bind λf=>some (f,(w64 (a.2+16)))else some (a.1,a.2)).bind λb=>(bif (decide (b.1>=256))then (Qu .u64 b.1 8).bind λg=>some (g,(w64 (b.2+8)))else some (b.1,b.2)).bind λd=>(AX (⟨#[0,1,2,2,3,3,3,3,4,4,4,4,4,4,4,4,5,5,5,5,5,5,5,5,5,5,5,5,5,5,5,5,6,6,6,6,6,6,6,6,6,6,6,6,6,6,6,6,6,6,6,6,6,6,6,6,6,6,6,6,6,6,6,6,7,7,7,7,7,7,7,7,7,7,7,7,7,7,7,7,7,7,7,7,7,7,7,7,7,7,7,7,7,7,7,7,7,7,7,7,7,7,7,7,7,7,7,7,7,7,7,7,7,7,7,7,7,7,7,7,7,7,7,7,7,7,7,7,8,8,8,8,8,8,8,8,8,8,8,8,8,8,8,8,8,8,8,8,8,8,8,8,8,8,8,8,8,8,8,8,8,8,8,8,8,8,8,8,8,8,8,8,8,8,8,8,8,8,8,8,8,8,8,8,8,8,8,8,8,8,8,8,8,8,8,8,8,8,8,8,8,8,8,8,8,8,8,8,8,8,8,8,8,8,8,8,8,8,8,8,8,8,8,8,8,8,8,8,8,8,8,8,8,8,8,8,8,8,8,8,8,8,8,8,8,8,8,8,8,8,8,8,8,8,8,8]⟩:ByteArray) (IntKind.u8.wrap d.1)).bind λe=>some (w64 (d.2+(w64 (e.toNat:Int))))
def iK (b:Int):Option (Int) :=
  (uD b).bind λa=>some a
def fB (c:Int) (a:(List Alert)×Int):Option (Ctl ((List Alert)×Int) (Unit)) :=
  (bif (decide (a.2>c))then (inR a.2 a.1).bind λ_=>(a.1[(0+(a.2).toNat)]?).bind λd=>(inR (w64 (a.2-1)) a.1).bind λ_=>(a.1[(0+((w64 (a.2-1))).toNat)]?).bind λe=>(nJ d e).bind λg=>some (decide (g<0))else some false).bind λh=>bif h then (inR (w64 (a.2-1)) a.1).bind λ_=>(a.1[(0+((w64 (a.2-1))).toNat)]?).bind λb=>(inR a.2 a.1).bind λ_=>(a.1[(0+(a.2).toNat)]?).bind λf=>(inR a.2 a.1).bind λ_=>(a.1[(0+(a.2).toNat)]?).bind λi=>(inR (w64 (a.2-1)) (a.1.set (0+(a.2).toNat) b)).bind λ_=>((a.1.set (0+(a.2).toNat) b)[(0+((w64 (a.2-1))).toNat)]?).bind λj=>some (.go (((a.1.set (0+(a.2).toNat) b).set (0+((w64 (a.2-1))).toNat) f),(w64 (a.2-1))))else some (.brk (a.1,a.2))
noncomputable def fF (c:Int) (b:Int) (a:(List Alert)×Int):Option (Ctl ((List Alert)×Int) (Unit)) :=
  bif (decide (a.2<c))then (jk (a.1,a.2) (λs=>fB b s)).bind λd=>thenC d (λe=>some (.go (e.1,(w64 (a.2+1))))) (λ_=>none)else some (.brk (a.1,a.2))
noncomputable def gp (c:(List Alert)) (a:Int) (b:Int):Option ((List Alert)) :=
  (jk (c,(w64 (a+1))) (λs=>fF b a s)).bind λd=>thenC d (λe=>some e.1) (λ_=>none)
noncomputable def ib (b:Int) (a:Int) (c:(List Alert)) (e:Int) (f:Unit):Option (Ctl (Unit) ((List Alert))) :=
  bif (decide ((w64 (b-a))<=12))then (gp c a b).bind λd=>(iQ d c).bind λ_=>some (.ret d)else bif (e==0)then none else none
noncomputable def iV (a:(List Alert)) (b:Int) (c:Int) (d:Int):Option ((List Alert)) :=
  (jk () (λs=>ib c b a d s)).bind λe=>thenC e (λf=>some a) (λr=>some r)
noncomputable def dx (a:(List Alert)):Option ((List Alert)) :=
  (iK (IntKind.u64.wrap (a.length:Int))).bind λc=>(iV a 0 (a.length:Int) c).bind λb=>(iQ b a).bind λ_=>some b
def eH (g:ByteArray) (h:Nat) (d:ByteArray) (a:(List ByteArray)×(List Int)×Int):Option (Ctl ((List ByteArray)×(List Int)×Int) (Unit)) :=
  (bif (sNe d g)then (je (⟨a.2.1,a.2.2⟩:Stream) 3).bind λb=>some (b.1,b.2.L,b.2.f_at)else some (false,a.2.1,a.2.2)).bind λc=>(bif c.1 then (mJ a.1 ([d]:List ByteArray)).bind λe=>some e else some a.1).bind λf=>some (.go (f,c.2.1,c.2.2))
def eG (d:Nat) (e:Nat) (b:(List Rect)×(List Int)×Int):Option (Ctl ((List Rect)×(List Int)×Int) (Unit)) :=
  (ko (⟨b.2.1,b.2.2⟩:Stream)).bind λa=>(mJ b.1 ([a.1]:List Rect)).bind λc=>some (.go (c,a.2.L,a.2.f_at))
def fU (t:Nat) (o:ByteArray) (i:(List Alert)×(List Int)×Int):Option (Ctl ((List Alert)×(List Int)×Int) (Unit)) :=
  (iH (⟨i.2.1,i.2.2⟩:Stream) ([(⟨#[119,120]⟩:ByteArray),(⟨#[119,120]⟩:ByteArray),(⟨#[102,105,114,101]⟩:ByteArray)]:List ByteArray)).bind λl=>(jQ l.2 ([1,1,2,2,3]:List Int)).bind λd=>(dn d.2 0 6).bind λf=>(jQ f.2 ([1,5,5,9]:List Int)).bind λm=>(iH m.2 ([(⟨#[102,108,111,111,100]⟩:ByteArray),(⟨#[102,105,114,101,32,105,110,32,116,104,101,32,109,97,108,108]⟩:ByteArray)]:List ByteArray)).bind λn=>(jQ n.2 ([1,10,20,50]:List Int)).bind λb=>(bif (d.1 != 1)then (forL ([(⟨#[97,97]⟩:ByteArray),(⟨#[97,98]⟩:ByteArray),(⟨#[97,99]⟩:ByteArray),(⟨#[97,100]⟩:ByteArray),(⟨#[122,122]⟩:ByteArray)]:List ByteArray) (([]:List ByteArray),b.2.L,b.2.f_at) (λk x s=>eH o k x s)).bind λq=>thenC q (λa=>bif ((a.1.length:Int)==0)then some (a.2.1,a.2.2,([(⟨#[122,121]⟩:ByteArray)]:List ByteArray))else some (a.2.1,a.2.2,a.1)) (λ_=>none)else some (b.2.L,b.2.f_at,([]:List ByteArray))).bind λc=>(bif (d.1==3)then (iH (⟨c.1,c.2.1⟩:Stream) ([(⟨#[]⟩:ByteArray),(⟨#[111,118,101,114]⟩:ByteArray)]:List ByteArray)).bind λg=>some (([]:List Rect),g.2.L,g.2.f_at,g.1)else (dn (⟨c.1,c.2.1⟩:Stream) 1 2).bind λh=>(forL (List.range (h.1).toNat) (([]:List Rect),h.2.L,h.2.f_at) (λk x s=>eG k x s)).bind λr=>thenC r (λj=>some (j.1,j.2.1,j.2.2,n.1)) (λ_=>none)).bind λe=>(mJ i.1 ([(⟨o,l.1,d.1,c.2.2,(w64 (f.1*5)),(w64 ((w64 (f.1*5))+b.1)),m.1,e.1,e.2.2.2⟩:Alert)]:List Alert)).bind λp=>some (.go (p,e.2.1,e.2.2.1))
noncomputable def gu (f:Stream) (d:Int):Option ((List Alert)×Stream) :=
  (dn f 0 d).bind λb=>(KP ([(⟨#[97,97]⟩:ByteArray),(⟨#[97,98]⟩:ByteArray),(⟨#[97,99]⟩:ByteArray),(⟨#[97,100]⟩:ByteArray),(⟨#[97,101]⟩:ByteArray),(⟨#[97,102]⟩:ByteArray)]:List ByteArray) 0 b.1).bind λg=>(forL g (([]:List Alert),b.2.L,b.2.f_at) (λk x s=>fU k x s)).bind λe=>thenC e (λa=>(dx a.1).bind λc=>(iQ c a.1).bind λ_=>some (c,(⟨a.2.1,a.2.2⟩:Stream))) (λ_=>none)
def gJ (h:Nat) (g:ByteArray) (b:(List Post)×(List Int)×Int):Option (Ctl ((List Post)×(List Int)×Int) (Unit)) :=
  (je (⟨b.2.1,b.2.2⟩:Stream) 5).bind λa=>(bif (!a.1)then (dn a.2 (-2) 10).bind λe=>(dn e.2 (-2) 10).bind λc=>(mJ b.1 ([(⟨g,e.1,c.1⟩:Post)]:List Post)).bind λf=>some (f,c.2.L,c.2.f_at)else some (b.1,a.2.L,a.2.f_at)).bind λd=>some (.go (d.1,d.2.1,d.2.2))
def iZ (b:Stream):Option ((List Post)×Stream) :=
  (forL ([(⟨#[112,97]⟩:ByteArray),(⟨#[112,98]⟩:ByteArray),(⟨#[112,99]⟩:ByteArray)]:List ByteArray) (([]:List Post),b.L,b.f_at) (λk x s=>gJ k x s)).bind λc=>thenC c (λa=>some (a.1,(⟨a.2.1,a.2.2⟩:Stream))) (λ_=>none)
def p8 (f:Stream) (b:Int) (a:Int):Option (Int×Stream) :=
  (je f 12).bind λc=>bif c.1 then (jQ c.2 ([(w64 (b-1)),(w64 (a+1)),b,a,(-1099511627776),1099511627776]:List Int)).bind λe=>some (e.1,e.2)else (dn c.2 b a).bind λd=>some (d.1,d.2)
def jB (h:ByteArray) (f:ByteArray) (i:Nat) (g:Bool) (b:(List Receipt)×(List Int)×Int):Option (Ctl ((List Receipt)×(List Int)×Int) (Unit)) :=
  (je (⟨b.2.1,b.2.2⟩:Stream) 3).bind λa=>(bif a.1 then (dn a.2 0 50).bind λc=>(mJ b.1 ([(⟨h,f,c.1,g⟩:Receipt)]:List Receipt)).bind λe=>some (e,c.2.L,c.2.f_at)else some (b.1,a.2.L,a.2.f_at)).bind λd=>some (.go (d.1,d.2.1,d.2.2))
def jC (e:ByteArray) (f:Nat) (d:ByteArray) (a:(List Receipt)×(List Int)×Int):Option (Ctl ((List Receipt)×(List Int)×Int) (Unit)) :=
  (forL ([false,true]:List Bool) (a.1,a.2.1,a.2.2) (λk x s=>jB e d k x s)).bind λc=>thenC c (λb=>some (.go (b.1,b.2.1,b.2.2))) (λ_=>none)
def jD (e:Nat) (d:ByteArray) (b:(List Receipt)×(List Int)×Int):Option (Ctl ((List Receipt)×(List Int)×Int) (Unit)) :=
  (forL ([(⟨#[97,97]⟩:ByteArray),(⟨#[97,98]⟩:ByteArray),(⟨#[97,99]⟩:ByteArray)]:List ByteArray) (b.1,b.2.1,b.2.2) (λk x s=>jC d k x s)).bind λc=>thenC c (λa=>some (.go (a.1,a.2.1,a.2.2))) (λ_=>none)
def jJ (m:Stream):Option ((List Receipt)×Stream) :=
  (forL ([(⟨#[112,97]⟩:ByteArray),(⟨#[112,98]⟩:ByteArray),(⟨#[112,99]⟩:ByteArray)]:List ByteArray) (([]:List Receipt),m.L,m.f_at) (λk x s=>jD k x s)).bind λp=>thenC p (λa=>(bif (decide ((a.1.length:Int)>0))then (je (⟨a.2.1,a.2.2⟩:Stream) 15).bind λh=>some (h.1,h.2.L,h.2.f_at)else some (false,a.2.1,a.2.2)).bind λe=>(bif e.1 then (jh (⟨e.2.1,e.2.2⟩:Stream) (a.1.length:Int)).bind λb=>(inR b.1 a.1).bind λ_=>(a.1[(0+(b.1).toNat)]?).bind λn=>(iH b.2 ([n.Player,(⟨#[]⟩:ByteArray),(⟨#[122,122]⟩:ByteArray)]:List ByteArray)).bind λf=>(a.1[(0+(b.1).toNat)]?).bind λo=>(iH f.2 ([o.Alert,(⟨#[65]⟩:ByteArray)]:List ByteArray)).bind λi=>(p8 i.2 0 50).bind λj=>(a.1[(0+(b.1).toNat)]?).bind λc=>((a.1.set (0+(b.1).toNat) (⟨f.1,c.Alert,c.At,c.Seen⟩:Receipt))[(0+(b.1).toNat)]?).bind λd=>(((a.1.set (0+(b.1).toNat) (⟨f.1,c.Alert,c.At,c.Seen⟩:Receipt)).set (0+(b.1).toNat) (⟨d.Player,i.1,d.At,d.Seen⟩:Receipt))[(0+(b.1).toNat)]?).bind λg=>some ((((a.1.set (0+(b.1).toNat) (⟨f.1,c.Alert,c.At,c.Seen⟩:Receipt)).set (0+(b.1).toNat) (⟨d.Player,i.1,d.At,d.Seen⟩:Receipt)).set (0+(b.1).toNat) (⟨g.Player,g.Alert,j.1,g.Seen⟩:Receipt)),j.2.L,j.2.f_at)else some (a.1,e.2.1,e.2.2)).bind λl=>some (l.1,(⟨l.2.1,l.2.2⟩:Stream))) (λ_=>none)
def lQ (c:ByteArray) (b:Int):Option (Ctl (Int) (Bool)) :=
  bif (decide (b<(c.size:Int)))then (AX c b).bind λa=>(bif (decide ((a.toNat:Int)>=97))then bif (decide ((a.toNat:Int)<=122))then some false else bif (decide (b>0))then bif (decide ((a.toNat:Int)>=48))then bif (decide ((a.toNat:Int)<=57))then some false else bif ((a.toNat:Int)==45)then some false else some (!((a.toNat:Int)==95))else bif ((a.toNat:Int)==45)then some false else some (!((a.toNat:Int)==95))else some true else bif (decide (b>0))then bif (decide ((a.toNat:Int)>=48))then bif (decide ((a.toNat:Int)<=57))then some false else bif ((a.toNat:Int)==45)then some false else some (!((a.toNat:Int)==95))else bif ((a.toNat:Int)==45)then some false else some (!((a.toNat:Int)==95))else some true).bind λd=>bif d then some (.ret false)else some (.go (w64 (b+1)))else some (.brk b)
noncomputable def kit_IsKey (a:ByteArray):Option (Bool) :=
  (jk 0 (λs=>lQ a s)).bind λb=>thenC b (λd=>(bif (sNe a (⟨#[]⟩:ByteArray))then some (decide ((a.size:Int)<=40))else some false).bind λc=>some c) (λr=>some r)
def aY (a:Int) (c:Int) (b:Int):Option (Bool) :=
  (bif (decide (a<c))then some true else some (decide (a>b))).bind λd=>some d
noncomputable def eO (b:Alert) (c:Nat) (a:ByteArray) (g:Unit):Option (Ctl (Unit) (Int)) :=
  (kit_IsKey a).bind λd=>bif (!d)then some (.ret 5)else (bif (decide ((c:Int)>0))then (idx b.Refs (w64 ((c:Int)-1))).bind λf=>some (sLe a f)else some false).bind λe=>bif e then some (.ret 7)else bif (sEq a b.Id)then some (.ret 14)else some (.go ())
noncomputable def iM (a:Alert):Option (Int) :=
  bif (decide ((a.Refs.length:Int)>20))then some 2 else (forL a.Refs () (λk x s=>eO a k x s)).bind λb=>thenC b (λc=>bif (!((a.Kind==1)==((a.Refs.length:Int)==0)))then some 3 else some 0) (λr=>some r)
def cB (a:Int):Option (Bool) :=
  (bif (decide (a>=0))then some (decide (a<345686400000))else some false).bind λb=>some b
def jI (a:Rect):Option (Int) :=
  ((aY a.X (-100000) 100000).bind λd=>bif d then some true else (aY a.Y (-100000) 100000).bind λe=>some e).bind λg=>bif g then some 1 else ((aY a.W 1 (w64 (100000-a.X))).bind λb=>bif b then some true else (aY a.H 1 (w64 (100000-a.Y))).bind λc=>some c).bind λf=>bif f then some 1 else some 0
def lU (x0:ByteArray):Option (Bool) :=
  N7 x0
def jM (c:Int) (a:ByteArray):Option (Ctl (ByteArray) (Unit)) :=
  (bif (decide ((a.size:Int)>0))then (AX a (w64 ((a.size:Int)-1))).bind λb=>some ((b.toNat:Int)==c)else some false).bind λd=>bif d then (Md a 0 (w64 ((a.size:Int)-1))).bind λe=>some (.go e)else some (.brk a)
noncomputable def strings_trimRightByte (c:ByteArray) (a:Int):Option (ByteArray) :=
  (jk c (λs=>jM a s)).bind λb=>thenC b (λd=>some d) (λ_=>none)
def jU (c:Int) (a:ByteArray):Option (Ctl (ByteArray) (Unit)) :=
  (bif (decide ((a.size:Int)>0))then (AX a 0).bind λb=>some ((b.toNat:Int)==c)else some false).bind λd=>bif d then (Md a 1 a.size).bind λe=>some (.go e)else some (.brk a)
noncomputable def strings_trimLeftByte (c:ByteArray) (a:Int):Option (ByteArray) :=
  (jk c (λs=>jU a s)).bind λb=>thenC b (λd=>some d) (λ_=>none)
noncomputable def rG (b:ByteArray) (a:ByteArray):Option (ByteArray) :=
  (bif (sEq b (⟨#[]⟩:ByteArray))then some true else some (sEq a (⟨#[]⟩:ByteArray))).bind λh=>bif h then some b else (bif ((a.size:Int)==1)then (AX a 0).bind λc=>some (decide ((c.toNat:Int)<128))else some false).bind λi=>bif i then (AX a 0).bind λd=>(strings_trimRightByte b (d.toNat:Int)).bind λf=>(AX a 0).bind λe=>(strings_trimLeftByte f (e.toNat:Int)).bind λg=>some g else none
def strings_Contains (x0:ByteArray) (x1:ByteArray):Option (Bool) :=
  DF x0 x1
def ry (b:ByteArray) (a:Int):Option (Ctl (Int) (Bool)) :=
  bif (decide (a<(b.size:Int)))then ((AX b a).bind λc=>bif (decide ((c.toNat:Int)<32))then some true else (AX b a).bind λd=>some ((d.toNat:Int)==127)).bind λe=>bif e then some (.ret false)else some (.go (w64 (a+1)))else some (.brk a)
noncomputable def mU (a:ByteArray):Option (Bool) :=
  (jk 0 (λs=>ry a s)).bind λb=>thenC b (λg=>((lU a).bind λc=>bif c then (rG a (⟨#[32]⟩:ByteArray)).bind λd=>bif (sEq d a)then (strings_Contains a (⟨#[32,32]⟩:ByteArray)).bind λe=>some (!e)else some false else some false).bind λf=>some f) (λr=>some r)
def eZ (c:Nat) (b:Rect) (d:Unit):Option (Ctl (Unit) (Int)) :=
  (jI b).bind λa=>bif (a != 0)then some (.ret a)else some (.go ())
noncomputable def gX (a:Alert):Option (Int) :=
  ((kit_IsKey a.Id).bind λi=>bif (!i)then some true else (kit_IsKey a.Sender).bind λj=>some (!j)).bind λm=>bif m then some 5 else (aY a.Kind 1 3).bind λd=>bif d then some 4 else (iM a).bind λb=>bif (b != 0)then some b else ((cB a.At).bind λe=>bif (!e)then some true else (aY a.Until (w64 (a.At+1)) (w64 (a.At+2592000000))).bind λf=>bif f then some true else (aY a.Weight 1 9).bind λg=>some g).bind λl=>bif l then some 1 else bif (decide ((a.Areas.length:Int)>20))then some 2 else (forL a.Areas () (λk x s=>eZ k x s)).bind λc=>thenC c (λo=>bif (!((a.Kind==3)==((a.Areas.length:Int)==0)))then some 3 else bif (decide ((a.Text.size:Int)>500))then some 2 else ((mU a.Text).bind λh=>bif (!h)then some true else bif (sEq a.Text (⟨#[]⟩:ByteArray))then some (!(a.Kind==3))else some false).bind λn=>bif n then some 3 else some 0) (λr=>some r)
def cmp_isNaN_int (a:Int):Option (Bool) :=
  some (a != a)
def cmp_Compare_int (a:Int) (b:Int):Option (Int) :=
  (cmp_isNaN_int a).bind λd=>(cmp_isNaN_int b).bind λc=>bif d then bif c then some 0 else some (-1)else bif c then some 1 else bif (decide (a<b))then some (-1)else bif (decide (a>b))then some 1 else some 0
def jK (a:ByteArray) (b:ByteArray):Option (Int) :=
  some (zt a b)
def strings_Compare (a:ByteArray) (b:ByteArray):Option (Int) :=
  (jK a b).bind λc=>some c
def p9 (b:Nat) (a:Int) (c:Unit):Option (Ctl (Unit) (Int)) :=
  bif (a != 0)then some (.ret a)else some (.go ())
def jF (b:(List Int)):Option (Int) :=
  (forL b () (λk x s=>p9 k x s)).bind λa=>thenC a (λc=>some 0) (λr=>some r)
def jc (a:Alert) (b:Alert):Option (Int) :=
  (cmp_Compare_int a.At b.At).bind λc=>(strings_Compare a.Id b.Id).bind λd=>(jF ([c,d]:List Int)).bind λe=>some e
noncomputable def gM (d:(List Alert)) (a:Nat) (c:Alert) (h:Unit):Option (Ctl (Unit) (Int)) :=
  (gX c).bind λb=>bif (b != 0)then some (.ret b)else (bif (decide ((a:Int)>0))then (idx d (w64 ((a:Int)-1))).bind λg=>(jc g c).bind λe=>some (decide (e>=0))else some false).bind λf=>bif f then some (.ret 7)else some (.go ())
def gN (c:Nat) (b:Alert) (a:(List (ByteArray×Bool))):Option (Ctl ((List (ByteArray×Bool))) (Int)) :=
  bif ((mGet eqS a b.Id).getD false)then some (.ret 6)else some (.go (zK eqS a b.Id true))
noncomputable def iC (a:(List Alert)):Option (Int) :=
  bif (decide ((a.length:Int)>300))then some 2 else (forL a () (λk x s=>gM a k x s)).bind λb=>thenC b (λe=>(forL a ([]:List (ByteArray×Bool)) (λk x s=>gN k x s)).bind λc=>thenC c (λd=>some 0) (λr=>some r)) (λr=>some r)
def dX (a:Int):Option Bool :=
  bif (decide (a<0))then none else bif (decide ((w64 (a-(w64 (0-0))))>0))then (zN (w64 (a-(w64 (0-0)))) 128).bind λ_=>some true else some false
def bD (c:Nat) (b:(List Alert)) (a:Int):Option (Ctl (Int) (Unit)) :=
  (bif (decide ((w64 (a+(b.length:Int)))<0))then none else some ()).bind λd=>some (.go (w64 (a+(b.length:Int))))
def bE (d:Nat) (c:(List Alert)) (b:(List Alert)):Option (Ctl ((List Alert)) (Unit)) :=
  (mJ b c).bind λa=>some (.go a)
def dY (a:(List (List Alert))):Option ((List Alert)) :=
  (forL a 0 (λk x s=>bD k x s)).bind λb=>thenC b (λe=>(dX e).bind λf=>(forL a ([]:List Alert) (λk x s=>bE k x s)).bind λc=>thenC c (λd=>some d) (λ_=>none)) (λ_=>none)
def gL (b:(List ByteArray)):Option ((List ByteArray)) :=
  (mJ [] b).bind λa=>some a
def fo (b:(List Rect)):Option ((List Rect)) :=
  (mJ [] b).bind λa=>some a
def tN (a:Alert):Option (Alert) :=
  (gL a.Refs).bind λb=>(fo a.Areas).bind λc=>some (⟨a.Id,a.Sender,a.Kind,b,a.At,a.Until,a.Weight,c,a.Text⟩:Alert)
def bW (s2_2:(List ByteArray)) (a:Nat) (b:ByteArray) (d:Unit):Option (Ctl (Unit) (Bool)) :=
  (idx s2_2 (a:Int)).bind λc=>bif (sNe b c)then some (.ret false)else some (.go ())
def dQ (s1_1:(List ByteArray)) (s2_2:(List ByteArray)):Option (Bool) :=
  bif ((s1_1.length:Int) != (s2_2.length:Int))then some false else (forL s1_1 () (λk x s=>bW s2_2 k x s)).bind λa=>thenC a (λb=>some true) (λr=>some r)
def dw (s2_2:(List Rect)) (c:Nat) (a:Rect) (d:Unit):Option (Ctl (Unit) (Bool)) :=
  (idx s2_2 (c:Int)).bind λb=>bif (!((a.X==b.X)&&((a.Y==b.Y)&&((a.W==b.W)&&((a.H==b.H)&&true)))))then some (.ret false)else some (.go ())
def fq (s1_1:(List Rect)) (s2_2:(List Rect)):Option (Bool) :=
  bif ((s1_1.length:Int) != (s2_2.length:Int))then some false else (forL s1_1 () (λk x s=>dw s2_2 k x s)).bind λa=>thenC a (λb=>some true) (λr=>some r)
def wy (a:Alert) (b:Alert):Option (Bool) :=
  (bif (sEq a.Id b.Id)then bif (sEq a.Sender b.Sender)then bif (a.Kind==b.Kind)then (dQ a.Refs b.Refs).bind λc=>bif c then bif (a.At==b.At)then bif (a.Until==b.Until)then bif (a.Weight==b.Weight)then (fq a.Areas b.Areas).bind λd=>bif d then some (sEq a.Text b.Text)else some false else some false else some false else some false else some false else some false else some false else some false).bind λe=>some e
def su (a:Alert) (b:Alert):Option (Int) :=
  (cmp_Compare_int a.At b.At).bind λc=>(strings_Compare a.Id b.Id).bind λd=>(jF ([c,d]:List Int)).bind λe=>some e
def fG (c:Int) (a:(List Alert)×Int):Option (Ctl ((List Alert)×Int) (Unit)) :=
  (bif (decide (a.2>c))then (inR a.2 a.1).bind λ_=>(a.1[(0+(a.2).toNat)]?).bind λd=>(inR (w64 (a.2-1)) a.1).bind λ_=>(a.1[(0+((w64 (a.2-1))).toNat)]?).bind λe=>(su d e).bind λg=>some (decide (g<0))else some false).bind λh=>bif h then (inR (w64 (a.2-1)) a.1).bind λ_=>(a.1[(0+((w64 (a.2-1))).toNat)]?).bind λb=>(inR a.2 a.1).bind λ_=>(a.1[(0+(a.2).toNat)]?).bind λf=>(inR a.2 a.1).bind λ_=>(a.1[(0+(a.2).toNat)]?).bind λi=>(inR (w64 (a.2-1)) (a.1.set (0+(a.2).toNat) b)).bind λ_=>((a.1.set (0+(a.2).toNat) b)[(0+((w64 (a.2-1))).toNat)]?).bind λj=>some (.go (((a.1.set (0+(a.2).toNat) b).set (0+((w64 (a.2-1))).toNat) f),(w64 (a.2-1))))else some (.brk (a.1,a.2))
noncomputable def fD (c:Int) (b:Int) (a:(List Alert)×Int):Option (Ctl ((List Alert)×Int) (Unit)) :=
  bif (decide (a.2<c))then (jk (a.1,a.2) (λs=>fG b s)).bind λd=>thenC d (λe=>some (.go (e.1,(w64 (a.2+1))))) (λ_=>none)else some (.brk (a.1,a.2))
noncomputable def fZ (c:(List Alert)) (a:Int) (b:Int):Option ((List Alert)) :=
  (jk (c,(w64 (a+1))) (λs=>fD b a s)).bind λd=>thenC d (λe=>some e.1) (λ_=>none)
noncomputable def ig (b:Int) (a:Int) (c:(List Alert)) (e:Int) (f:Unit):Option (Ctl (Unit) ((List Alert))) :=
  bif (decide ((w64 (b-a))<=12))then (fZ c a b).bind λd=>(iQ d c).bind λ_=>some (.ret d)else bif (e==0)then none else none
noncomputable def iT (a:(List Alert)) (b:Int) (c:Int) (d:Int):Option ((List Alert)) :=
  (jk () (λs=>ig c b a d s)).bind λe=>thenC e (λf=>some a) (λr=>some r)
noncomputable def eF (a:(List Alert)):Option ((List Alert)) :=
  (iK (IntKind.u64.wrap (a.length:Int))).bind λc=>(iT a 0 (a.length:Int) c).bind λb=>(iQ b a).bind λ_=>some b
noncomputable def jS (b:(List Alert)) (c:(List Alert)) (d:Nat) (g:Nat) (f:Unit):Option (Ctl (Unit) ((List Alert)×Int)) :=
  (idx ([b,c]:List (List Alert)) (d:Int)).bind λe=>(iC e).bind λa=>bif (a != 0)then some (.ret (([]:(List Alert)),a))else some (.go ())
def kT (f:Nat) (b:Alert) (a:(List (ByteArray×Alert))×(List Alert)):Option (Ctl ((List (ByteArray×Alert))×(List Alert)) ((List Alert)×Int)) :=
  bif (!((mGet eqS a.1 b.Id).isSome))then (tN b).bind λd=>(mJ a.2 ([d]:List Alert)).bind λc=>some (.go ((zK eqS a.1 b.Id b),c))else (wy ((mGet eqS a.1 b.Id).getD (⟨(⟨#[]⟩:ByteArray),(⟨#[]⟩:ByteArray),0,([]:List ByteArray),0,0,0,([]:List Rect),(⟨#[]⟩:ByteArray)⟩:Alert)) b).bind λe=>bif (!e)then some (.ret (([]:(List Alert)),13))else some (.go (a.1,a.2))
noncomputable def qG (b:(List Alert)) (c:(List Alert)):Option ((List Alert)×Int) :=
  (forL (List.range (2:Int).toNat) () (λk x s=>jS b c k x s)).bind λe=>thenC e (λh=>(dY ([b,c]:List (List Alert))).bind λg=>(forL g (([]:List (ByteArray×Alert)),([]:List Alert)) (λk x s=>kT k x s)).bind λf=>thenC f (λa=>bif (decide ((a.2.length:Int)>300))then some (([]:(List Alert)),2)else (eF a.2).bind λd=>(iQ d a.2).bind λ_=>some (d,0)) (λr=>some r)) (λr=>some r)
def jT (b:(List ByteArray)) (a:Nat) (d:Nat) (c:Unit):Option (Ctl (Unit) (Unit)) :=
  (inR (a:Int) b).bind λ_=>some (.go ())
def lF (a:(List ByteArray)):Option (Unit) :=
  (forL (List.range ((a.length:Int)).toNat) () (λk x s=>jT a k x s)).bind λb=>thenC b (λc=>some ()) (λ_=>none)
def jv (b:(List Rect)) (a:Nat) (d:Nat) (c:Unit):Option (Ctl (Unit) (Unit)) :=
  (inR (a:Int) b).bind λ_=>some (.go ())
def kH (a:(List Rect)):Option (Unit) :=
  (forL (List.range ((a.length:Int)).toNat) () (λk x s=>jv a k x s)).bind λb=>thenC b (λc=>some ()) (λ_=>none)
def jd (b:(List Alert)) (a:Nat) (d:Nat) (c:Unit):Option (Ctl (Unit) (Unit)) :=
  (inR (a:Int) b).bind λ_=>some (.go ())
def jV (a:(List Alert)):Option (Unit) :=
  (forL (List.range ((a.length:Int)).toNat) () (λk x s=>jd a k x s)).bind λb=>thenC b (λc=>some ()) (λ_=>none)
def mh (a:Bool):Option (Int) :=
  bif a then some 1 else some 0
def eT (a:Receipt) (b:Receipt):Option (Int) :=
  (strings_Compare a.Player b.Player).bind λf=>(strings_Compare a.Alert b.Alert).bind λg=>(mh a.Seen).bind λh=>(mh b.Seen).bind λc=>(cmp_Compare_int h c).bind λd=>(jF ([f,g,d]:List Int)).bind λe=>some e
noncomputable def gY (c:(List Receipt)) (b:Nat) (a:Receipt) (k:Unit):Option (Ctl (Unit) (Int)) :=
  ((kit_IsKey a.Player).bind λd=>bif (!d)then some true else (kit_IsKey a.Alert).bind λe=>some (!e)).bind λh=>bif h then some (.ret 5)else (cB a.At).bind λf=>bif (!f)then some (.ret 1)else (bif (decide ((b:Int)>0))then (idx c (w64 ((b:Int)-1))).bind λj=>(eT j a).bind λg=>some (decide (g>=0))else some false).bind λi=>bif i then some (.ret 7)else some (.go ())
noncomputable def ji (a:(List Receipt)):Option (Int) :=
  bif (decide ((a.length:Int)>2000))then some 2 else (forL a () (λk x s=>gY a k x s)).bind λb=>thenC b (λc=>some 0) (λr=>some r)
def dG (a:Int):Option Bool :=
  bif (decide (a<0))then none else bif (decide ((w64 (a-(w64 (0-0))))>0))then (zN (w64 (a-(w64 (0-0)))) 48).bind λ_=>some true else some false
def bG (c:Nat) (b:(List Receipt)) (a:Int):Option (Ctl (Int) (Unit)) :=
  (bif (decide ((w64 (a+(b.length:Int)))<0))then none else some ()).bind λd=>some (.go (w64 (a+(b.length:Int))))
def bH (d:Nat) (c:(List Receipt)) (b:(List Receipt)):Option (Ctl ((List Receipt)) (Unit)) :=
  (mJ b c).bind λa=>some (.go a)
def lS (a:Receipt) (b:Receipt):Option (Int) :=
  (eT a b).bind λc=>(cmp_Compare_int a.At b.At).bind λd=>(jF ([c,d]:List Int)).bind λe=>some e
noncomputable def iP (x:(List Receipt)):Option ((List Receipt)) :=
  zS (λa b=>lS a b) x
def di (b:(List (List Receipt))):Option ((List Receipt)) :=
  (forL b 0 (λk x s=>bG k x s)).bind λd=>thenC d (λf=>(dG f).bind λc=>(forL b ([]:List Receipt) (λk x s=>bH k x s)).bind λe=>thenC e (λa=>(kE c a).bind λ_=>some a) (λ_=>none)) (λ_=>none)
def kI (b:Receipt) (c:Receipt):Option (Bool) :=
  (eT b c).bind λa=>some (a==0)
def aW (c:(List Receipt)) (b:Int) (a:(List Receipt)×Int×Int):Option (Ctl ((List Receipt)×Int×Int) (Unit)) :=
  bif (decide (a.2.2<(((((c.length:Int)).toNat-(b).toNat):Nat):Int)))then (inN a.2.2 (((c.length:Int)).toNat-(b).toNat)).bind λ_=>(a.1[(((b).toNat)+(a.2.2).toNat)]?).bind λe=>(inN (w64 (a.2.2-1)) (((c.length:Int)).toNat-(b).toNat)).bind λ_=>(a.1[(((b).toNat)+((w64 (a.2.2-1))).toNat)]?).bind λf=>(kI e f).bind λh=>(bif (!h)then (inN a.2.2 (((c.length:Int)).toNat-(b).toNat)).bind λ_=>(a.1[(((b).toNat)+(a.2.2).toNat)]?).bind λg=>(inR a.2.1 a.1).bind λ_=>(a.1[(0+(a.2.1).toNat)]?).bind λi=>some ((a.1.set (0+(a.2.1).toNat) g),(w64 (a.2.1+1)))else some (a.1,a.2.1)).bind λd=>some (.go (d.1,d.2,(w64 (a.2.2+1))))else some (.brk (a.1,a.2.1,a.2.2))
noncomputable def aO (b:(List Receipt)) (c:Int):Option (Ctl (Int) ((List Receipt))) :=
  bif (decide (c<(b.length:Int)))then (inR c b).bind λ_=>(b[(0+(c).toNat)]?).bind λd=>(inR (w64 (c-1)) b).bind λ_=>(b[(0+((w64 (c-1))).toNat)]?).bind λe=>(kI d e).bind λg=>bif g then (neL b).bind λ_=>(rY b c (b.length:Int)).bind λ_=>(jk (b,c,1) (λs=>aW b c s)).bind λf=>thenC f (λa=>(rY a.1 a.2.1 (a.1.length:Int)).bind λ_=>(rY (a.1.take ((a.2.1).toNat)++List.replicate (((a.1.length:Int)).toNat-(a.2.1).toNat) (⟨(⟨#[]⟩:ByteArray),(⟨#[]⟩:ByteArray),0,false⟩:Receipt)++a.1.drop (((a.2.1).toNat)+(((a.1.length:Int)).toNat-(a.2.1).toNat))) 0 a.2.1).bind λ_=>some (.ret (I9 (a.1.take ((a.2.1).toNat)++List.replicate (((a.1.length:Int)).toNat-(a.2.1).toNat) (⟨(⟨#[]⟩:ByteArray),(⟨#[]⟩:ByteArray),0,false⟩:Receipt)++a.1.drop (((a.2.1).toNat)+(((a.1.length:Int)).toNat-(a.2.1).toNat))) 0 ((a.2.1).toNat)))) (λ_=>none)else some (.go (w64 (c+1)))else some (.brk c)
noncomputable def bR (a:(List Receipt)):Option ((List Receipt)) :=
  bif (decide ((a.length:Int)<2))then some a else (jk 1 (λs=>aO a s)).bind λb=>thenC b (λc=>some a) (λr=>some r)
noncomputable def oP (b:(List Receipt)) (c:(List Receipt)) (d:Nat) (g:Nat) (f:Unit):Option (Ctl (Unit) ((List Receipt)×Int)) :=
  (idx ([b,c]:List (List Receipt)) (d:Int)).bind λe=>(ji e).bind λa=>bif (a != 0)then some (.ret (([]:List Receipt),a))else some (.go ())
noncomputable def ug (a:(List Receipt)) (b:(List Receipt)):Option ((List Receipt)×Int) :=
  (forL (List.range (2:Int).toNat) () (λk x s=>oP a b k x s)).bind λf=>thenC f (λg=>(di ([a,b]:List (List Receipt))).bind λc=>(iP c).bind λd=>(iQ d c).bind λ_=>(bR d).bind λe=>bif (decide ((e.length:Int)>2000))then some (([]:List Receipt),2)else some (e,0)) (λr=>some r)
def iO (b:(List Receipt)) (a:Nat) (d:Nat) (c:Unit):Option (Ctl (Unit) (Unit)) :=
  (inR (a:Int) b).bind λ_=>some (.go ())
def jy (a:(List Receipt)):Option (Unit) :=
  (forL (List.range ((a.length:Int)).toNat) () (λk x s=>iO a k x s)).bind λb=>thenC b (λc=>some ()) (λ_=>none)
noncomputable def iB (c:(List Post)) (b:Nat) (a:Post) (j:Unit):Option (Ctl (Unit) (Int)) :=
  (kit_IsKey a.Player).bind λd=>bif (!d)then some (.ret 5)else ((aY a.X (-100000) 100000).bind λe=>bif e then some true else (aY a.Y (-100000) 100000).bind λf=>some f).bind λg=>bif g then some (.ret 1)else (bif (decide ((b:Int)>0))then (idx c (w64 ((b:Int)-1))).bind λi=>some (sLe a.Player i.Player)else some false).bind λh=>bif h then some (.ret 7)else some (.go ())
noncomputable def jL (a:(List Post)):Option (Int) :=
  bif (decide ((a.length:Int)>500))then some 2 else (forL a () (λk x s=>iB a k x s)).bind λb=>thenC b (λc=>some 0) (λr=>some r)
noncomputable def iL (b:(List Alert)) (c:(List Post)):Option (Int) :=
  (iC b).bind λa=>bif (a != 0)then some a else (jL c).bind λd=>some d
noncomputable def rJ (b:(List Alert)) (c:(List Post)) (d:(List Receipt)):Option (Int) :=
  (iL b c).bind λa=>bif (a != 0)then some a else (ji d).bind λe=>some e
def oL (e:Int) (h:Nat) (c:Receipt) (d:(List (Pair×Int))):Option (Ctl ((List (Pair×Int))) (Unit)) :=
  (bif (decide (c.At<=e))then bif (!((mGet (λ(a b:Pair)=>(eqS a.f_player b.f_player&&(eqS a.f_alert b.f_alert&&true))) d (⟨c.Player,c.Alert⟩:Pair)).isSome))then some true else some (decide (c.At<((mGet (λ(a b:Pair)=>(eqS a.f_player b.f_player&&(eqS a.f_alert b.f_alert&&true))) d (⟨c.Player,c.Alert⟩:Pair)).getD 0)))else some false).bind λf=>(bif f then some (zK (λ(a b:Pair)=>(eqS a.f_player b.f_player&&(eqS a.f_alert b.f_alert&&true))) d (⟨c.Player,c.Alert⟩:Pair) c.At)else some d).bind λg=>some (.go g)
def uf (c:(List Receipt)) (a:Int):Option ((List (Pair×Int))) :=
  (forL c ([]:List (Pair×Int)) (λk x s=>oL a k x s)).bind λb=>thenC b (λd=>some d) (λ_=>none)
def mW (a:Alert) (c:ByteArray) (b:Alert):Option (Bool) :=
  (bif (sEq a.Id c)then bif (sEq a.Sender b.Sender)then (jc a b).bind λd=>some (decide (d<0))else some false else some false).bind λe=>some e
def dZ (a:Alert->Option Bool) (b:Nat) (d:Alert) (e:Unit):Option (Ctl (Unit) (Int)) :=
  (a d).bind λc=>bif c then some (.ret (b:Int))else some (.go ())
def eY (c:(List Alert)) (a:Alert->Option Bool):Option (Int) :=
  (forL c () (λk x s=>dZ a k x s)).bind λb=>thenC b (λd=>some (-1)) (λr=>some r)
def r9 (b:(List Alert)) (a:Alert) (d:ByteArray):Option (Int) :=
  (eY b (λx0=>mW x0 d a)).bind λc=>some c
def qh (d:Nat) (c:Alert) (b:(List Int)):Option (Ctl ((List Int)) (Unit)) :=
  (mJ b ([c.Until]:List Int)).bind λa=>some (.go a)
def nK (e:(List Alert)) (c:Alert) (i:Nat) (g:ByteArray) (b:(List Int)):Option (Ctl ((List Int)) (Unit)) :=
  (r9 e c g).bind λa=>(bif (decide (a>=0))then (inR a b).bind λ_=>(b[(0+(a).toNat)]?).bind λd=>(inR a b).bind λ_=>(b[(0+(a).toNat)]?).bind λh=>some (b.set (0+(a).toNat) (Aa d c.At))else some b).bind λf=>some (.go f)
def pY (b:(List Alert)) (f:Nat) (a:Alert) (d:(List Int)):Option (Ctl ((List Int)) (Unit)) :=
  (forL a.Refs d (λk x s=>nK b a k x s)).bind λc=>thenC c (λe=>some (.go e)) (λ_=>none)
def sG (a:(List Alert)):Option ((List Int)) :=
  (forL a ([]:List Int) (λk x s=>qh k x s)).bind λb=>thenC b (λe=>(forL a e (λk x s=>pY a k x s)).bind λc=>thenC c (λd=>some d) (λ_=>none)) (λ_=>none)
def nz (a:Rect) (b:Post):Option (Bool) :=
  (bif (decide (a.X<=b.X))then bif (decide (b.X<(w64 (a.X+a.W))))then bif (decide (a.Y<=b.Y))then some (decide (b.Y<(w64 (a.Y+a.H))))else some false else some false else some false).bind λc=>some c
def bO (a:Rect->Option Bool) (b:Nat) (d:Rect) (e:Unit):Option (Ctl (Unit) (Int)) :=
  (a d).bind λc=>bif c then some (.ret (b:Int))else some (.go ())
def fI (c:(List Rect)) (a:Rect->Option Bool):Option (Int) :=
  (forL c () (λk x s=>bO a k x s)).bind λb=>thenC b (λd=>some (-1)) (λr=>some r)
def dF (c:(List Rect)) (a:Rect->Option Bool):Option (Bool) :=
  (fI c a).bind λb=>some (decide (b>=0))
def kJ (a:Alert) (b:Post):Option (Bool) :=
  (dF a.Areas (λx0=>nz x0 b)).bind λc=>some c
def ru (a:Alert) (c:Int) (d:Post) (b:Int):Option (Bool) :=
  (bif (a.Kind != 3)then bif (decide (a.At<=b))then bif (decide (a.At<c))then (kJ a d).bind λe=>some e else some false else some false else some false).bind λf=>some f
def nI (a:Debt) (b:Debt):Option (Int) :=
  (strings_Compare a.Player b.Player).bind λc=>(strings_Compare a.Alert b.Alert).bind λd=>(jF ([c,d]:List Int)).bind λe=>some e
noncomputable def fT (x:(List Debt)):Option ((List Debt)) :=
  zS (λa b=>nI a b) x
def mr (j:(List Int)) (d:Post) (h:Int) (e:Int) (g:(List (Pair×Int))) (i:Nat) (c:Alert) (f:(List Debt)):Option (Ctl ((List Debt)) (Unit)) :=
  ((idx j (i:Int)).bind λp=>(ru c p d h).bind λm=>bif (!m)then some true else bif (decide ((w64 (c.At+e))>=h))then some true else (idx j (i:Int)).bind λq=>some (decide (q<(w64 (c.At+e))))).bind λn=>bif n then some (.go f)else (bif (!((mGet (λ(a b:Pair)=>(eqS a.f_player b.f_player&&(eqS a.f_alert b.f_alert&&true))) g (⟨d.Player,c.Id⟩:Pair)).isSome))then (mJ f ([(⟨d.Player,c.Id,(w64 (c.At+e)),(-1)⟩:Debt)]:List Debt)).bind λk=>some k else bif (decide (((mGet (λ(a b:Pair)=>(eqS a.f_player b.f_player&&(eqS a.f_alert b.f_alert&&true))) g (⟨d.Player,c.Id⟩:Pair)).getD 0)>(w64 (c.At+e))))then (mJ f ([(⟨d.Player,c.Id,(w64 (c.At+e)),((mGet (λ(a b:Pair)=>(eqS a.f_player b.f_player&&(eqS a.f_alert b.f_alert&&true))) g (⟨d.Player,c.Id⟩:Pair)).getD 0)⟩:Debt)]:List Debt)).bind λl=>some l else some f).bind λo=>some (.go o)
def q8 (c:(List Alert)) (f:(List Int)) (a:Int) (b:Int) (e:(List (Pair×Int))) (j:Nat) (i:Post) (g:(List Debt)):Option (Ctl ((List Debt)) (Unit)) :=
  (forL c g (λk x s=>mr f i a b e k x s)).bind λd=>thenC d (λh=>some (.go h)) (λ_=>none)
noncomputable def tK (b:(List Alert)) (d:(List Post)) (e:(List Receipt)) (c:Int) (a:Int):Option ((List Debt)×Int) :=
  (rJ b d e).bind λf=>bif (f != 0)then some (([]:(List Debt)),f)else ((aY c 0 2592000000).bind λj=>bif j then some true else (cB a).bind λl=>some (!l)).bind λo=>bif o then some (([]:(List Debt)),1)else (uf e a).bind λm=>(sG b).bind λn=>(forL d ([]:List Debt) (λk x s=>q8 b n a c m k x s)).bind λi=>thenC i (λh=>(fT h).bind λg=>(iQ g h).bind λ_=>some (g,0)) (λ_=>none)
def jw (a:Nat) (d:Nat) (b:(List Debt)):Option (Ctl ((List Debt)) (Unit)) :=
  (inR (a:Int) b).bind λ_=>(b[(0+((a:Int)).toNat)]?).bind λc=>some (.go (b.set (0+((a:Int)).toNat) (⟨(⟨#[]⟩:ByteArray),(⟨#[]⟩:ByteArray),0,0⟩:Debt)))
def kC (a:(List Debt)):Option ((List Debt)) :=
  (forL (List.range ((a.length:Int)).toNat) a (λk x s=>jw k x s)).bind λb=>thenC b (λc=>some c) (λ_=>none)
def nQ (a:Int):Option (Int) :=
  (cB a).bind λb=>bif (!b)then some 1 else some 0
def vU (a:Alert) (c:Int) (b:Int):Option (Bool) :=
  (bif (a.Kind != 3)then bif (decide (a.At<=b))then some (decide (b<c))else some false else some false).bind λd=>some d
def pE (a:Alert) (b:Alert):Option (Int) :=
  (cmp_Compare_int b.Weight a.Weight).bind λd=>(cmp_Compare_int b.At a.At).bind λe=>(strings_Compare a.Id b.Id).bind λf=>(jF ([d,e,f]:List Int)).bind λc=>some c
def fE (c:Int) (a:(List Alert)×Int):Option (Ctl ((List Alert)×Int) (Unit)) :=
  (bif (decide (a.2>c))then (inR a.2 a.1).bind λ_=>(a.1[(0+(a.2).toNat)]?).bind λd=>(inR (w64 (a.2-1)) a.1).bind λ_=>(a.1[(0+((w64 (a.2-1))).toNat)]?).bind λe=>(pE d e).bind λg=>some (decide (g<0))else some false).bind λh=>bif h then (inR (w64 (a.2-1)) a.1).bind λ_=>(a.1[(0+((w64 (a.2-1))).toNat)]?).bind λb=>(inR a.2 a.1).bind λ_=>(a.1[(0+(a.2).toNat)]?).bind λf=>(inR a.2 a.1).bind λ_=>(a.1[(0+(a.2).toNat)]?).bind λi=>(inR (w64 (a.2-1)) (a.1.set (0+(a.2).toNat) b)).bind λ_=>((a.1.set (0+(a.2).toNat) b)[(0+((w64 (a.2-1))).toNat)]?).bind λj=>some (.go (((a.1.set (0+(a.2).toNat) b).set (0+((w64 (a.2-1))).toNat) f),(w64 (a.2-1))))else some (.brk (a.1,a.2))
noncomputable def fA (c:Int) (b:Int) (a:(List Alert)×Int):Option (Ctl ((List Alert)×Int) (Unit)) :=
  bif (decide (a.2<c))then (jk (a.1,a.2) (λs=>fE b s)).bind λd=>thenC d (λe=>some (.go (e.1,(w64 (a.2+1))))) (λ_=>none)else some (.brk (a.1,a.2))
noncomputable def gq (c:(List Alert)) (a:Int) (b:Int):Option ((List Alert)) :=
  (jk (c,(w64 (a+1))) (λs=>fA b a s)).bind λd=>thenC d (λe=>some e.1) (λ_=>none)
noncomputable def gZ (b:Int) (a:Int) (c:(List Alert)) (e:Int) (f:Unit):Option (Ctl (Unit) ((List Alert))) :=
  bif (decide ((w64 (b-a))<=12))then (gq c a b).bind λd=>(iQ d c).bind λ_=>some (.ret d)else bif (e==0)then none else none
noncomputable def iR (a:(List Alert)) (b:Int) (c:Int) (d:Int):Option ((List Alert)) :=
  (jk () (λs=>gZ c b a d s)).bind λe=>thenC e (λf=>some a) (λr=>some r)
noncomputable def dB (a:(List Alert)):Option ((List Alert)) :=
  (iK (IntKind.u64.wrap (a.length:Int))).bind λc=>(iR a 0 (a.length:Int) c).bind λb=>(iQ b a).bind λ_=>some b
def nC (e:(List Int)) (d:Int) (g:Post) (f:Nat) (a:Alert) (b:(List Alert)):Option (Ctl ((List Alert)) (Unit)) :=
  ((idx e (f:Int)).bind λl=>(vU a l d).bind λh=>bif h then (kJ a g).bind λi=>some i else some false).bind λj=>(bif j then (mJ b ([a]:List Alert)).bind λc=>some c else some b).bind λk=>some (.go k)
noncomputable def qX (e:(List Alert)) (d:(List Int)) (g:Post) (c:Int):Option ((List Alert)) :=
  (forL e ([]:List Alert) (λk x s=>nC d c g k x s)).bind λf=>thenC f (λb=>(dB b).bind λa=>(iQ a b).bind λ_=>some a) (λ_=>none)
noncomputable def l6 (f:(List Alert)) (g:(List Int)) (e:Int) (j:Nat) (c:Post) (b:(List Pair_)):Option (Ctl ((List Pair_)) (Unit)) :=
  (qX f g c e).bind λa=>(bif (decide ((a.length:Int)>0))then (idx a 0).bind λi=>(mJ b ([(⟨c.Player,i.Id⟩:Pair_)]:List Pair_)).bind λd=>some d else some b).bind λh=>some (.go h)
noncomputable def qg (a:(List Alert)) (c:(List Post)) (b:Int):Option ((List Pair_)×Int) :=
  (iL a c).bind λd=>bif (d != 0)then some (([]:(List Pair_)),d)else (nQ b).bind λe=>bif (e != 0)then some (([]:(List Pair_)),e)else (sG a).bind λg=>(forL c ([]:List Pair_) (λk x s=>l6 a g b k x s)).bind λf=>thenC f (λh=>some (h,0)) (λ_=>none)
def jr (a:Nat) (d:Nat) (b:(List Pair_)):Option (Ctl ((List Pair_)) (Unit)) :=
  (inR (a:Int) b).bind λ_=>(b[(0+((a:Int)).toNat)]?).bind λc=>some (.go (b.set (0+((a:Int)).toNat) (⟨(⟨#[]⟩:ByteArray),(⟨#[]⟩:ByteArray)⟩:Pair_)))
def kw (a:(List Pair_)):Option ((List Pair_)) :=
  (forL (List.range ((a.length:Int)).toNat) a (λk x s=>jr k x s)).bind λb=>thenC b (λc=>some c) (λ_=>none)
def qV  : Option ((List ByteArray)) :=
  some ([(⟨#[]⟩:ByteArray),(⟨#[110,101,119]⟩:ByteArray),(⟨#[117,112,100,97,116,101]⟩:ByteArray),(⟨#[99,97,110,99,101,108]⟩:ByteArray)]:List ByteArray)
def strconv_Itoa (x0:Int):Option (ByteArray) :=
  Pn x0
def strings_Join (x0:(List ByteArray)) (x1:ByteArray):Option (ByteArray) :=
  OH x0 x1
def mH (e:Nat) (d:Int) (c:(List ByteArray)):Option (Ctl ((List ByteArray)) (Unit)) :=
  (strconv_Itoa d).bind λb=>(mJ c ([b]:List ByteArray)).bind λa=>some (.go a)
def ou (a:(List Int)):Option (ByteArray) :=
  (forL a ([]:List ByteArray) (λk x s=>mH k x s)).bind λb=>thenC b (λd=>(strings_Join d (⟨#[32]⟩:ByteArray)).bind λc=>some c) (λ_=>none)
def jX (f:Nat) (e:ByteArray) (a:ByteArray):Option (Ctl (ByteArray) (Unit)) :=
  (pJ (⟨#[114,101,102,32]⟩:ByteArray) e).bind λb=>(pJ b (⟨#[10]⟩:ByteArray)).bind λc=>(pJ a c).bind λd=>some (.go d)
def jY (g:Nat) (a:Rect) (c:ByteArray):Option (Ctl (ByteArray) (Unit)) :=
  (ou ([a.X,a.Y,a.W,a.H]:List Int)).bind λb=>(pJ (⟨#[97,114,101,97,32]⟩:ByteArray) b).bind λd=>(pJ d (⟨#[10]⟩:ByteArray)).bind λe=>(pJ c e).bind λf=>some (.go f)
def lD (z:Nat) (a:Alert) (r:ByteArray):Option (Ctl (ByteArray) (Unit)) :=
  (pJ (⟨#[97,108,101,114,116,32]⟩:ByteArray) a.Id).bind λg=>(pJ g (⟨#[32]⟩:ByteArray)).bind λh=>(pJ h a.Sender).bind λi=>(pJ i (⟨#[32]⟩:ByteArray)).bind λj=>(qV).bind λe=>(idx e a.Kind).bind λy=>(pJ j y).bind λl=>(pJ l (⟨#[32]⟩:ByteArray)).bind λm=>(ou ([a.At,a.Until,a.Weight]:List Int)).bind λf=>(pJ m f).bind λn=>(pJ n (⟨#[10]⟩:ByteArray)).bind λo=>(pJ r o).bind λp=>(forL a.Refs p (λk x s=>jX k x s)).bind λc=>thenC c (λq=>(forL a.Areas q (λk x s=>jY k x s)).bind λd=>thenC d (λb=>(bif (sNe a.Text (⟨#[]⟩:ByteArray))then (pJ (⟨#[116,101,120,116,32]⟩:ByteArray) a.Text).bind λt=>(pJ t (⟨#[10]⟩:ByteArray)).bind λu=>(pJ b u).bind λv=>some v else some b).bind λw=>some (.go w)) (λ_=>none)) (λ_=>none)
def lZ (a:(List Alert)):Option (ByteArray) :=
  (forL a (⟨#[]⟩:ByteArray) (λk x s=>lD k x s)).bind λb=>thenC b (λc=>some c) (λ_=>none)
def qd (a:Alert) (b:Alert):Option (Bool) :=
  (lZ ([a]:List Alert)).bind λc=>(lZ ([b]:List Alert)).bind λd=>some (sEq c d)
def bg (s2_2:(List Alert)) (a:Nat) (c:Alert) (e:Unit):Option (Ctl (Unit) (Bool)) :=
  (idx s2_2 (a:Int)).bind λd=>(qd c d).bind λb=>bif (!b)then some (.ret false)else some (.go ())
def bN (s1_1:(List Alert)) (s2_2:(List Alert)):Option (Bool) :=
  bif ((s1_1.length:Int) != (s2_2.length:Int))then some false else (forL s1_1 () (λk x s=>bg s2_2 k x s)).bind λa=>thenC a (λb=>some true) (λr=>some r)
def dW (s2_2:(List Post)) (c:Nat) (a:Post) (d:Unit):Option (Ctl (Unit) (Bool)) :=
  (idx s2_2 (c:Int)).bind λb=>bif (!((a.Player.toList==b.Player.toList)&&((a.X==b.X)&&((a.Y==b.Y)&&true))))then some (.ret false)else some (.go ())
def iq (s1_1:(List Post)) (s2_2:(List Post)):Option (Bool) :=
  bif ((s1_1.length:Int) != (s2_2.length:Int))then some false else (forL s1_1 () (λk x s=>dW s2_2 k x s)).bind λa=>thenC a (λb=>some true) (λr=>some r)
def dh (s2_2:(List Receipt)) (c:Nat) (a:Receipt) (d:Unit):Option (Ctl (Unit) (Bool)) :=
  (idx s2_2 (c:Int)).bind λb=>bif (!((a.Player.toList==b.Player.toList)&&((a.Alert.toList==b.Alert.toList)&&((a.At==b.At)&&((a.Seen==b.Seen)&&true)))))then some (.ret false)else some (.go ())
def eX (s1_1:(List Receipt)) (s2_2:(List Receipt)):Option (Bool) :=
  bif ((s1_1.length:Int) != (s2_2.length:Int))then some false else (forL s1_1 () (λk x s=>dh s2_2 k x s)).bind λa=>thenC a (λb=>some true) (λr=>some r)
def oK (c:Nat) (b:Rect) (d:Unit):Option (Ctl (Unit) (Int)) :=
  (jI b).bind λa=>bif (a != 0)then some (.ret a)else some (.go ())
def nS (a:(List Rect)):Option (Int) :=
  bif (decide ((a.length:Int)>2000))then some 2 else (forL a () (λk x s=>oK k x s)).bind λb=>thenC b (λc=>some 0) (λr=>some r)
def jo (a:Int):Option Bool :=
  bif (decide (a<0))then none else bif (decide ((w64 (a-(w64 (0-0))))>0))then (zN (w64 (a-(w64 (0-0)))) 32).bind λ_=>some true else some false
def iW (c:Nat) (b:(List Rect)) (a:Int):Option (Ctl (Int) (Unit)) :=
  (bif (decide ((w64 (a+(b.length:Int)))<0))then none else some ()).bind λd=>some (.go (w64 (a+(b.length:Int))))
def iU (d:Nat) (c:(List Rect)) (b:(List Rect)):Option (Ctl ((List Rect)) (Unit)) :=
  (mJ b c).bind λa=>some (.go a)
def gK (a:(List (List Rect))):Option ((List Rect)) :=
  (forL a 0 (λk x s=>iW k x s)).bind λb=>thenC b (λe=>(jo e).bind λf=>(forL a ([]:List Rect) (λk x s=>iU k x s)).bind λc=>thenC c (λd=>some d) (λ_=>none)) (λ_=>none)
def fH (x:(List Int)):Option ((List Int)) :=
  LC x
def bX (c:(List Int)) (b:Int) (a:(List Int)×Int×Int):Option (Ctl ((List Int)×Int×Int) (Unit)) :=
  bif (decide (a.2.2<(((((c.length:Int)).toNat-(b).toNat):Nat):Int)))then (inN a.2.2 (((c.length:Int)).toNat-(b).toNat)).bind λ_=>(a.1[(((b).toNat)+(a.2.2).toNat)]?).bind λe=>(inN (w64 (a.2.2-1)) (((c.length:Int)).toNat-(b).toNat)).bind λ_=>(a.1[(((b).toNat)+((w64 (a.2.2-1))).toNat)]?).bind λf=>(bif (e != f)then (inN a.2.2 (((c.length:Int)).toNat-(b).toNat)).bind λ_=>(a.1[(((b).toNat)+(a.2.2).toNat)]?).bind λg=>(inR a.2.1 a.1).bind λ_=>(a.1[(0+(a.2.1).toNat)]?).bind λh=>some ((a.1.set (0+(a.2.1).toNat) g),(w64 (a.2.1+1)))else some (a.1,a.2.1)).bind λd=>some (.go (d.1,d.2,(w64 (a.2.2+1))))else some (.brk (a.1,a.2.1,a.2.2))
noncomputable def bz (b:(List Int)) (c:Int):Option (Ctl (Int) ((List Int))) :=
  bif (decide (c<(b.length:Int)))then (inR c b).bind λ_=>(b[(0+(c).toNat)]?).bind λd=>(inR (w64 (c-1)) b).bind λ_=>(b[(0+((w64 (c-1))).toNat)]?).bind λe=>bif (d==e)then (neL b).bind λ_=>(rY b c (b.length:Int)).bind λ_=>(jk (b,c,1) (λs=>bX b c s)).bind λf=>thenC f (λa=>(rY a.1 a.2.1 (a.1.length:Int)).bind λ_=>(rY (a.1.take ((a.2.1).toNat)++List.replicate (((a.1.length:Int)).toNat-(a.2.1).toNat) 0++a.1.drop (((a.2.1).toNat)+(((a.1.length:Int)).toNat-(a.2.1).toNat))) 0 a.2.1).bind λ_=>some (.ret (I9 (a.1.take ((a.2.1).toNat)++List.replicate (((a.1.length:Int)).toNat-(a.2.1).toNat) 0++a.1.drop (((a.2.1).toNat)+(((a.1.length:Int)).toNat-(a.2.1).toNat))) 0 ((a.2.1).toNat)))) (λ_=>none)else some (.go (w64 (c+1)))else some (.brk c)
noncomputable def dJ (a:(List Int)):Option ((List Int)) :=
  bif (decide ((a.length:Int)<2))then some a else (jk 1 (λs=>bz a s)).bind λb=>thenC b (λc=>some a) (λr=>some r)
def xA (a:Run) (b:Run):Option (Int) :=
  some (w64 (a.f_from-b.f_from))
def dD (c:Int) (a:(List Run)×Int):Option (Ctl ((List Run)×Int) (Unit)) :=
  (bif (decide (a.2>c))then (inR a.2 a.1).bind λ_=>(a.1[(0+(a.2).toNat)]?).bind λd=>(inR (w64 (a.2-1)) a.1).bind λ_=>(a.1[(0+((w64 (a.2-1))).toNat)]?).bind λe=>(xA d e).bind λg=>some (decide (g<0))else some false).bind λh=>bif h then (inR (w64 (a.2-1)) a.1).bind λ_=>(a.1[(0+((w64 (a.2-1))).toNat)]?).bind λb=>(inR a.2 a.1).bind λ_=>(a.1[(0+(a.2).toNat)]?).bind λf=>(inR a.2 a.1).bind λ_=>(a.1[(0+(a.2).toNat)]?).bind λi=>(inR (w64 (a.2-1)) (a.1.set (0+(a.2).toNat) b)).bind λ_=>((a.1.set (0+(a.2).toNat) b)[(0+((w64 (a.2-1))).toNat)]?).bind λj=>some (.go (((a.1.set (0+(a.2).toNat) b).set (0+((w64 (a.2-1))).toNat) f),(w64 (a.2-1))))else some (.brk (a.1,a.2))
noncomputable def bS (c:Int) (b:Int) (a:(List Run)×Int):Option (Ctl ((List Run)×Int) (Unit)) :=
  bif (decide (a.2<c))then (jk (a.1,a.2) (λs=>dD b s)).bind λd=>thenC d (λe=>some (.go (e.1,(w64 (a.2+1))))) (λ_=>none)else some (.brk (a.1,a.2))
noncomputable def bZ (c:(List Run)) (a:Int) (b:Int):Option ((List Run)) :=
  (jk (c,(w64 (a+1))) (λs=>bS b a s)).bind λd=>thenC d (λe=>some e.1) (λ_=>none)
noncomputable def dz (b:Int) (a:Int) (c:(List Run)) (e:Int) (f:Unit):Option (Ctl (Unit) ((List Run))) :=
  bif (decide ((w64 (b-a))<=12))then (bZ c a b).bind λd=>(iQ d c).bind λ_=>some (.ret d)else bif (e==0)then none else none
noncomputable def dN (a:(List Run)) (b:Int) (c:Int) (d:Int):Option ((List Run)) :=
  (jk () (λs=>dz c b a d s)).bind λe=>thenC e (λf=>some a) (λr=>some r)
noncomputable def cO (a:(List Run)):Option ((List Run)) :=
  (iK (IntKind.u64.wrap (a.length:Int))).bind λc=>(dN a 0 (a.length:Int) c).bind λb=>(iQ b a).bind λ_=>some b
def rH (c:Int) (g:Nat) (a:Rect) (b:(List Run)):Option (Ctl ((List Run)) (Unit)) :=
  (bif (decide (a.Y<=c))then some (decide (c<(w64 (a.Y+a.H))))else some false).bind λe=>(bif e then (mJ b ([(⟨a.X,(w64 (a.X+a.W))⟩:Run)]:List Run)).bind λd=>some d else some b).bind λf=>some (.go f)
def qY (i:Nat) (b:Run) (a:(List Run)):Option (Ctl ((List Run)) (Unit)) :=
  (bif (decide ((w64 ((a.length:Int)-1))>=0))then (inR (w64 ((a.length:Int)-1)) a).bind λ_=>(a[(0+((w64 ((a.length:Int)-1))).toNat)]?).bind λd=>some (decide (b.f_from<=d.f_to))else some false).bind λg=>(bif g then (inR (w64 ((a.length:Int)-1)) a).bind λ_=>(a[(0+((w64 ((a.length:Int)-1))).toNat)]?).bind λe=>(inR (w64 ((a.length:Int)-1)) a).bind λ_=>(a[(0+((w64 ((a.length:Int)-1))).toNat)]?).bind λf=>some (a.set (0+((w64 ((a.length:Int)-1))).toNat) (⟨f.f_from,(xG e.f_to b.f_to)⟩:Run))else (mJ a ([b]:List Run)).bind λc=>some c).bind λh=>some (.go h)
noncomputable def qI (c:(List Rect)) (g:Int):Option ((List Run)) :=
  (forL c ([]:List Run) (λk x s=>rH g k x s)).bind λd=>thenC d (λb=>(cO b).bind λa=>(iQ a b).bind λ_=>(forL a ([]:List Run) (λk x s=>qY k x s)).bind λe=>thenC e (λf=>some f) (λ_=>none)) (λ_=>none)
def rz (b:(List Run)) (d:Run) (a:Int):Option (Ctl (Int) (Unit)) :=
  (bif (decide (a<(b.length:Int)))then (idx b a).bind λe=>some (decide (e.f_to<=d.f_from))else some false).bind λc=>bif c then some (.go (w64 (a+1)))else some (.brk a)
def qR (b:(List Run)) (f:Run) (a:(List Run)×Int×Int):Option (Ctl ((List Run)×Int×Int) (Unit)) :=
  (bif (decide (a.2.1<(b.length:Int)))then (idx b a.2.1).bind λg=>some (decide (g.f_from<f.f_to))else some false).bind λd=>bif d then (idx b a.2.1).bind λh=>(bif (decide (h.f_from>a.2.2))then (idx b a.2.1).bind λi=>(mJ a.1 ([(⟨a.2.2,i.f_from⟩:Run)]:List Run)).bind λc=>some c else some a.1).bind λe=>(idx b a.2.1).bind λj=>some (.go (e,(w64 (a.2.1+1)),(xG a.2.2 j.f_to)))else some (.brk (a.1,a.2.1,a.2.2))
noncomputable def om (c:(List Run)) (j:Nat) (a:Run) (e:(List Run)×Int):Option (Ctl ((List Run)×Int) (Unit)) :=
  (jk e.2 (λs=>rz c a s)).bind λg=>thenC g (λd=>(jk (e.1,d,a.f_from) (λs=>qR c a s)).bind λh=>thenC h (λb=>(bif (decide (b.2.2<a.f_to))then (mJ b.1 ([(⟨b.2.2,a.f_to⟩:Run)]:List Run)).bind λf=>some f else some b.1).bind λi=>some (.go (i,d))) (λ_=>none)) (λ_=>none)
noncomputable def uj (a:(List Run)) (b:(List Run)):Option ((List Run)) :=
  (forL a (([]:List Run),0) (λk x s=>om b k x s)).bind λc=>thenC c (λd=>some d.1) (λ_=>none)
def ik (s2_2:(List Run)) (c:Nat) (a:Run) (d:Unit):Option (Ctl (Unit) (Bool)) :=
  (idx s2_2 (c:Int)).bind λb=>bif (!((a.f_from==b.f_from)&&((a.f_to==b.f_to)&&true)))then some (.ret false)else some (.go ())
def fK (s1_1:(List Run)) (s2_2:(List Run)):Option (Bool) :=
  bif ((s1_1.length:Int) != (s2_2.length:Int))then some false else (forL s1_1 () (λk x s=>ik s2_2 k x s)).bind λa=>thenC a (λb=>some true) (λr=>some r)
def o7 (d:Nat) (a:Rect) (c:(List Int)):Option (Ctl ((List Int)) (Unit)) :=
  (mJ c ([a.Y,(w64 (a.Y+a.H))]:List Int)).bind λb=>some (.go b)
def oW (b:(List Rect)×(List Run)×Int) (e:Int) (f:Nat) (a:Run) (d:(List Rect)):Option (Ctl ((List Rect)) (Unit)) :=
  (mJ d ([(⟨a.f_from,b.2.2,(w64 (a.f_to-a.f_from)),(w64 (e-b.2.2))⟩:Rect)]:List Rect)).bind λc=>some (.go c)
noncomputable def mo (h:(List Int)) (e:(List Rect)) (f:(List Rect)) (d:Nat) (b:Int) (a:(List Rect)×(List Run)×Int):Option (Ctl ((List Rect)×(List Run)×Int) (Unit)) :=
  (bif (decide ((w64 ((d:Int)+1))<(h.length:Int)))then (qI e b).bind λi=>(qI f b).bind λj=>(uj i j).bind λl=>some l else some ([]:List Run)).bind λc=>(fK a.2.1 c).bind λm=>bif m then some (.go (a.1,a.2.1,a.2.2))else (forL a.2.1 a.1 (λk x s=>oW a b k x s)).bind λg=>thenC g (λn=>some (.go (n,c,b))) (λ_=>none)
noncomputable def pW (a:(List Rect)) (b:(List Rect)):Option ((List Rect)) :=
  (gK ([a,b]:List (List Rect))).bind λh=>(forL h ([]:List Int) (λk x s=>o7 k x s)).bind λf=>thenC f (λe=>(fH e).bind λc=>(iQ c e).bind λ_=>(dJ c).bind λd=>(forL d (([]:List Rect),([]:List Run),0) (λk x s=>mo d a b k x s)).bind λg=>thenC g (λi=>some i.1) (λ_=>none)) (λ_=>none)
def vM (c:Nat) (a:Rect) (b:Int):Option (Ctl (Int) (Unit)) :=
  some (.go (w64 (b+(w64 (a.W*a.H)))))
def wU (a:(List Rect)):Option (Int) :=
  (forL a 0 (λk x s=>vM k x s)).bind λb=>thenC b (λc=>some c) (λ_=>none)
noncomputable def tT (a:(List Rect)):Option (Int×Int) :=
  (nS a).bind λb=>bif (b != 0)then some (0,b)else (pW a ([]:List Rect)).bind λc=>(wU c).bind λd=>some (d,0)
def EF (a:Int):Option (Bool) :=
  (bif (decide (a>=0))then some (decide (a<=4000))else some false).bind λb=>some b
def l9 (c:(List Int)) (a:Nat) (b:Int) (g:Unit):Option (Ctl (Unit) (Int)) :=
  (EF b).bind λd=>bif (!d)then some (.ret 1)else (bif (decide ((a:Int)>0))then (idx c (w64 ((a:Int)-1))).bind λf=>some (decide (b<=f))else some false).bind λe=>bif e then some (.ret 7)else some (.go ())
def lJ (a:(List Int)):Option (Int) :=
  bif (decide ((a.length:Int)>100))then some 2 else (forL a () (λk x s=>l9 a k x s)).bind λb=>thenC b (λc=>some 0) (λr=>some r)
noncomputable def kS (c:(List ByteArray)) (a:Nat) (b:ByteArray) (g:Unit):Option (Ctl (Unit) (Int)) :=
  (kit_IsKey b).bind λd=>bif (!d)then some (.ret 5)else (bif (decide ((a:Int)>0))then (idx c (w64 ((a:Int)-1))).bind λf=>some (sLe b f)else some false).bind λe=>bif e then some (.ret 7)else some (.go ())
noncomputable def lu (a:(List ByteArray)):Option (Int) :=
  (forL a () (λk x s=>kS a k x s)).bind λb=>thenC b (λc=>some 0) (λr=>some r)
noncomputable def kN (a:(List ByteArray)):Option (Int) :=
  bif (decide ((a.length:Int)>20))then some 2 else (lu a).bind λb=>some b
noncomputable def kr (a:Entry):Option (Int) :=
  ((kit_IsKey a.Key).bind λk=>bif (!k)then some true else (kit_IsKey a.Item).bind λl=>some (!l)).bind λo=>bif o then some 5 else ((aY a.Version 0 1000000).bind λc=>bif c then some true else (aY a.First 0 a.Last).bind λd=>bif d then some true else bif (decide (a.Last>4000))then some true else (aY a.Every 1 400).bind λe=>bif e then some true else (aY a.Days 1 127).bind λf=>some f).bind λm=>bif m then some 1 else (lJ a.Except).bind λb=>bif (b != 0)then some b else ((aY a.From 0 1439).bind λg=>bif g then some true else (aY a.To 0 1439).bind λh=>bif h then some true else (aY a.Prio 0 9).bind λi=>some i).bind λn=>bif n then some 1 else (kN a.Tags).bind λj=>some j
noncomputable def iI (d:(List Entry)) (a:Nat) (c:Entry) (g:Unit):Option (Ctl (Unit) (Int)) :=
  (kr c).bind λb=>bif (b != 0)then some (.ret b)else (bif (decide ((a:Int)>0))then (idx d (w64 ((a:Int)-1))).bind λf=>some (sLe c.Key f.Key)else some false).bind λe=>bif e then some (.ret 7)else some (.go ())
noncomputable def jA (a:(List Entry)):Option (Int) :=
  bif (decide ((a.length:Int)>200))then some 2 else (forL a () (λk x s=>iI a k x s)).bind λb=>thenC b (λc=>some 0) (λr=>some r)
def lC (a:Window):Option (Int) :=
  ((aY a.From 0 a.To).bind λb=>bif b then some true else some (decide (a.To>345686400000))).bind λc=>bif c then some 1 else bif (decide ((w64 (a.To-a.From))>34560000000))then some 2 else some 0
def cmp_Less_int (a:Int) (b:Int):Option (Bool) :=
  ((cmp_isNaN_int a).bind λc=>bif c then (cmp_isNaN_int b).bind λd=>bif (!d)then some true else some (decide (a<b))else some (decide (a<b))).bind λe=>some e
def kK (a:Int):Option (Bool) :=
  some (a != a)
def gW (e:(List Int)) (d:Int) (a:Int×Int):Option (Ctl (Int×Int) (Unit)) :=
  bif (decide (a.1<a.2))then (Qu .u64 (IntKind.u64.wrap (w64 (a.1+a.2))) 1).bind λb=>(idx e (w64 b)).bind λf=>(cmp_Less_int f d).bind λc=>bif c then some (.go ((w64 ((w64 b)+1)),a.2))else some (.go (a.1,(w64 b)))else some (.brk (a.1,a.2))
noncomputable def gz (a:(List Int)) (c:Int):Option (Int×Bool) :=
  (jk (0,(a.length:Int)) (λs=>gW a c s)).bind λd=>thenC d (λb=>(bif (decide (b.1<(a.length:Int)))then (idx a b.1).bind λh=>bif (h==c)then some true else (idx a b.1).bind λi=>(kK i).bind λe=>bif e then (kK c).bind λf=>some f else some false else some false).bind λg=>some (b.1,g)) (λ_=>none)
noncomputable def oN (a:Entry) (b:Int):Option (Bool) :=
  ((aY b a.First a.Last).bind λf=>bif f then some true else (Nf .i64 (w64 (b-a.First)) a.Every).bind λd=>bif (d != 0)then some true else (shlO .i64 1 (b.tmod 7)).bind λc=>some ((Tg .i64 a.Days c)==0)).bind λg=>bif g then some false else (gz a.Except b).bind λe=>some (!e.2)
def ql (a:Entry) (c:Int) (b:Int):Option (Window) :=
  (bif (decide ((w64 (a.To-a.From))<=0))then some (w64 ((w64 (a.To-a.From))+1440))else some (w64 (a.To-a.From))).bind λd=>some (⟨(w64 ((w64 ((w64 ((w64 (b*1440))+a.From))-c))*60000)),(w64 ((w64 ((w64 ((w64 ((w64 (b*1440))+a.From))-c))*60000))+(w64 (d*60000))))⟩:Window)
noncomputable def lH (d:Window) (e:Int) (b:Entry) (a:(List Window)×Int):Option (Ctl ((List Window)×Int) (Unit)) :=
  bif (decide (a.2<=(Aa (w64 ((w64 ((w64 (d.To+(w64 (e*60000)))).tdiv 86400000))+1)) b.Last)))then (oN b a.2).bind λg=>bif (!g)then some (.go (a.1,(w64 (a.2+1))))else (ql b e a.2).bind λc=>(bif (decide (c.From<d.To))then some (decide (c.To>d.From))else some false).bind λh=>(bif h then (mJ a.1 ([c]:List Window)).bind λf=>some f else some a.1).bind λi=>some (.go (i,(w64 (a.2+1))))else some (.brk (a.1,a.2))
noncomputable def oG (b:Entry) (c:Int) (a:Window):Option ((List Window)) :=
  (bif b.Gone then some true else some (decide (a.From>=a.To))).bind λf=>bif f then some ([]:(List Window))else (jk (([]:List Window),(xG (w64 ((w64 ((w64 (a.From+(w64 (c*60000)))).tdiv 86400000))-2)) b.First)) (λs=>lH a c b s)).bind λd=>thenC d (λe=>some e.1) (λ_=>none)
def yR (a:Window) (b:Window):Option (Window) :=
  some (⟨(xG a.From b.From),(Aa a.To b.To)⟩:Window)
def nR (e:Window) (a:Nat) (g:Nat) (b:(List Window)):Option (Ctl ((List Window)) (Unit)) :=
  (inR (a:Int) b).bind λ_=>(b[(0+((a:Int)).toNat)]?).bind λc=>(yR c e).bind λd=>(inR (a:Int) b).bind λ_=>(b[(0+((a:Int)).toNat)]?).bind λf=>some (.go (b.set (0+((a:Int)).toNat) d))
noncomputable def ow (b:Entry) (f:Int) (a:Window):Option ((List Window)×Int) :=
  (jA ([b]:List Entry)).bind λe=>bif (e != 0)then some (([]:(List Window)),e)else (aY f (-1440) 1440).bind λh=>bif h then some (([]:(List Window)),1)else (lC a).bind λc=>bif (c != 0)then some (([]:(List Window)),c)else (oG b f a).bind λd=>(forL (List.range ((d.length:Int)).toNat) d (λk x s=>nR a k x s)).bind λg=>thenC g (λi=>some (i,0)) (λ_=>none)
def rC (a:Window):Option (Bool) :=
  (bif (decide (a.From>=0))then bif (decide (a.From<a.To))then some (decide (a.To<=345686400000))else some false else some false).bind λb=>some b
noncomputable def lI (a:(List ByteArray)):Option (Int) :=
  bif (decide ((a.length:Int)>20))then some 2 else (lu a).bind λb=>some b
noncomputable def iw (d:(List Campaign)) (b:Nat) (a:Campaign) (o:Unit):Option (Ctl (Unit) (Int)) :=
  ((kit_IsKey a.Key).bind λe=>bif (!e)then some true else bif (sNe a.Class (⟨#[]⟩:ByteArray))then (kit_IsKey a.Class).bind λf=>some (!f)else some false).bind λk=>bif k then some (.ret 5)else (bif (decide ((b:Int)>0))then (idx d (w64 ((b:Int)-1))).bind λn=>some (sLe a.Key n.Key)else some false).bind λl=>bif l then some (.ret 7)else ((rC a.Time).bind λg=>bif (!g)then some true else (aY a.Goal 0 1000000).bind λh=>bif h then some true else (aY a.Most 0 1000000).bind λi=>bif i then some true else (aY a.Cents 0 1000000000).bind λj=>some j).bind λm=>bif m then some (.ret 1)else (lI a.Tags).bind λc=>bif (c != 0)then some (.ret c)else some (.go ())
noncomputable def jg (a:(List Campaign)):Option (Int) :=
  bif (decide ((a.length:Int)>30))then some 2 else (forL a () (λk x s=>iw a k x s)).bind λb=>thenC b (λc=>some 0) (λr=>some r)
def wQ (a:Campaign) (b:Int):Option (Int) :=
  bif (decide (b<a.Time.From))then some 0 else bif (decide (b>=a.Time.To))then some a.Goal else (OD .i64 (w64 (a.Goal*(w64 (b-a.Time.From)))) (w64 (a.Time.To-a.Time.From))).bind λc=>some c
noncomputable def tO (b:Campaign) (a:Int):Option (Int×Int) :=
  (jg ([b]:List Campaign)).bind λc=>bif (c != 0)then some (0,c)else (cB a).bind λe=>bif (!e)then some (0,1)else (wQ b a).bind λd=>some (d,0)
def mZ (a:Beat) (b:Beat):Option (Int) :=
  (strings_Compare a.Player b.Player).bind λc=>(cmp_Compare_int a.At b.At).bind λd=>(jF ([c,d]:List Int)).bind λe=>some e
noncomputable def ku (c:(List Beat)) (b:Nat) (a:Beat) (n:Unit):Option (Ctl (Unit) (Int)) :=
  (kit_IsKey a.Player).bind λd=>bif (!d)then some (.ret 5)else ((cB a.At).bind λe=>bif (!e)then some true else (aY a.Clock 0 345686399999).bind λf=>some f).bind λh=>bif h then some (.ret 1)else (bif (decide ((b:Int)>0))then (idx c (w64 ((b:Int)-1))).bind λk=>(mZ k a).bind λg=>some (decide (g>=0))else some false).bind λi=>bif i then some (.ret 7)else (bif (decide ((b:Int)>0))then (idx c (w64 ((b:Int)-1))).bind λl=>bif (sEq a.Player l.Player)then (idx c (w64 ((b:Int)-1))).bind λm=>some (decide (a.Clock<=m.Clock))else some false else some false).bind λj=>bif j then some (.ret 16)else some (.go ())
noncomputable def l5 (a:(List Beat)):Option (Int) :=
  bif (decide ((a.length:Int)>500))then some 2 else (forL a () (λk x s=>ku a k x s)).bind λb=>thenC b (λc=>some 0) (λr=>some r)
def sj (f:ByteArray) (e:Bool) (h:Nat) (a:Beat) (b:(List Beat_)):Option (Ctl ((List Beat_)) (Unit)) :=
  (bif (sNe a.Player f)then some b else bif e then (mJ b ([(⟨a.At,a.Clock⟩:Beat_)]:List Beat_)).bind λc=>some c else (mJ b ([(⟨a.Clock,a.At⟩:Beat_)]:List Beat_)).bind λd=>some d).bind λg=>some (.go g)
def sW (b:(List Beat)) (d:ByteArray) (a:Bool):Option ((List Beat_)) :=
  (forL b ([]:List Beat_) (λk x s=>sj d a k x s)).bind λc=>thenC c (λe=>some e) (λ_=>none)
def qi (b:(List Beat_)) (c:Int) (a:Int):Option (Ctl (Int) (Unit)) :=
  (bif (decide (a<(b.length:Int)))then (idx b a).bind λe=>some (decide (e.f_from<=c))else some false).bind λd=>bif d then some (.go (w64 (a+1)))else some (.brk a)
noncomputable def rA (a:(List Beat_)) (c:Int):Option (Int×Int) :=
  bif ((a.length:Int)==0)then some (0,8)else (jk 0 (λs=>qi a c s)).bind λk=>thenC k (λd=>bif (d==0)then (idx a 0).bind λg=>(idx a 0).bind λh=>(cB (w64 (g.f_to-(w64 (h.f_from-c))))).bind λl=>bif (!l)then some (0,11)else some ((w64 (g.f_to-(w64 (h.f_from-c)))),0)else bif (d==(a.length:Int))then (idx a (w64 (d-1))).bind λi=>(idx a (w64 (d-1))).bind λj=>(cB (w64 ((w64 (i.f_to+c))-j.f_from))).bind λm=>bif (!m)then some (0,11)else some ((w64 ((w64 (i.f_to+c))-j.f_from)),0)else (idx a (w64 (d-1))).bind λb=>(idx a d).bind λe=>(bif (decide ((w64 (e.f_from-b.f_from))>2592000000))then some true else some (decide ((w64 (e.f_to-b.f_to))>2592000000))).bind λo=>bif o then some (0,2)else (OD .i64 (w64 ((w64 (c-b.f_from))*(w64 (e.f_to-b.f_to)))) (w64 (e.f_from-b.f_from))).bind λf=>(cB (w64 (b.f_to+f))).bind λn=>bif (!n)then some (0,11)else some ((w64 (b.f_to+f)),0)) (λ_=>none)
noncomputable def tC (a:(List Beat)) (c:ByteArray) (b:Int) (f:Bool):Option (Int×Int) :=
  (l5 a).bind λe=>bif (e != 0)then some (0,e)else (kit_IsKey c).bind λi=>bif (!i)then some (0,5)else (cB b).bind λg=>bif (!g)then some (0,1)else (sW a c f).bind λh=>(rA h b).bind λd=>some (d.1,d.2)
noncomputable def tZ (c:(List Beat)) (d:ByteArray) (b:Int):Option (Int×Int) :=
  (tC c d b false).bind λa=>some (a.1,a.2)
noncomputable def qf (a:Alert) (b:Post):Option (Bool×Int) :=
  (iL ([a]:List Alert) ([b]:List Post)).bind λc=>bif (c != 0)then some (false,c)else (kJ a b).bind λd=>some (d,0)
def yH (b:Nat) (a:Int) (c:Unit):Option (Ctl (Unit) (Int)) :=
  bif (a != 0)then some (.ret a)else some (.go ())
def Ay (a:(List Int)):Option (Int) :=
  (forL a () (λk x s=>yH k x s)).bind λb=>thenC b (λc=>some 0) (λr=>some r)
noncomputable def sF  : Option (Bool) :=
  (tT ([(⟨0,0,2,2⟩:Rect),(⟨1,1,2,2⟩:Rect)]:List Rect)).bind λa=>(ow (⟨(⟨#[97]⟩:ByteArray),(⟨#[98]⟩:ByteArray),0,0,0,1,127,([]:List Int),1,2,0,([]:List ByteArray),false⟩:Entry) 0 (⟨0,86400000⟩:Window)).bind λc=>(tO (⟨(⟨#[97]⟩:ByteArray),(⟨#[]⟩:ByteArray),(⟨0,100⟩:Window),([]:List ByteArray),10,0,0⟩:Campaign) 50).bind λd=>(tZ ([(⟨(⟨#[112]⟩:ByteArray),0,100⟩:Beat),(⟨(⟨#[112]⟩:ByteArray),1000,1300⟩:Beat)]:List Beat) (⟨#[112]⟩:ByteArray) 700).bind λe=>(qf (⟨(⟨#[97]⟩:ByteArray),(⟨#[115]⟩:ByteArray),1,([]:List ByteArray),0,5,1,([(⟨0,0,2,2⟩:Rect)]:List Rect),(⟨#[120]⟩:ByteArray)⟩:Alert) (⟨(⟨#[112]⟩:ByteArray),1,1⟩:Post)).bind λb=>((Ay ([a.2,c.2,d.2,e.2,b.2]:List Int)).bind λf=>bif (f==0)then bif (a.1==7)then bif ((c.1.length:Int)==1)then bif (d.1==5)then bif (e.1==500)then some b.1 else some false else some false else some false else some false else some false).bind λg=>some g
def jE (b:(List Alert)×Int) (a:Nat) (h:Nat) (g:Unit):Option (Ctl (Unit) (Unit)) :=
  (inR (a:Int) b.1).bind λ_=>(b.1[(0+((a:Int)).toNat)]?).bind λc=>(lF c.Refs).bind λe=>(inR (a:Int) b.1).bind λ_=>(b.1[(0+((a:Int)).toNat)]?).bind λd=>(kH d.Areas).bind λf=>some (.go ())
noncomputable def qj (e:(List Int)):Option (Bool) :=
  (gu (⟨e,0⟩:Stream) 5).bind λa=>(iZ a.2).bind λb=>(jJ b.2).bind λc=>(gu (⟨e,0⟩:Stream) 5).bind λf=>(iZ f.2).bind λg=>(jJ g.2).bind λl=>(qG a.1 ([]:List Alert)).bind λd=>(forL (List.range ((d.1.length:Int)).toNat) () (λk x s=>jE d k x s)).bind λj=>thenC j (λy=>(jV d.1).bind λv=>(ug c.1 ([]:List Receipt)).bind λm=>(jy m.1).bind λw=>(tK a.1 b.1 c.1 5 40).bind λh=>(kC h.1).bind λn=>(iQ n h.1).bind λ_=>(qg a.1 b.1 10).bind λi=>(kw i.1).bind λo=>(iQ o i.1).bind λ_=>((bN a.1 f.1).bind λp=>bif p then (iq b.1 g.1).bind λq=>bif q then (eX c.1 l.1).bind λr=>bif r then (sF).bind λt=>some t else some false else some false else some false).bind λu=>some u) (λ_=>none)
end Go.Proofs.YtadpbmfnnlkdlacGreatDoor.Law

