/-
  The functions of the program, as plain functions over data (written by a program of ours).
-/
import Derived.Test.YtadpbmfnnlkdlacGreatDoorEng5
open Go Go.Eng
namespace Go.Proofs.YtadpbmfnnlkdlacGreatDoor.Law
set_option maxRecDepth 100000
set_option linter.unusedVariables false
set_option maxHeartbeats 1000000
structure Stream where
  L:(List Int)
  f_at:Int
def Stream.enc (s:Stream):List D:=[dl eI s.L,.int .i64 s.f_at]

structure Rect where
  X:Int
  Y:Int
  W:Int
  H:Int
def Rect.enc (s:Rect):List D:=[.int .i64 s.X,.int .i64 s.Y,.int .i64 s.W,.int .i64 s.H]
abbrev Rect.v (s:Rect):List V:=[(vI s.X),(vI s.Y),(vI s.W),(vI s.H)]

structure Alert where
  Id:ByteArray
  Sender:ByteArray
  Kind:Int
  Refs:(List ByteArray)
  At:Int
  Until:Int
  Weight:Int
  Areas:(List Rect)
  Text:ByteArray
def Alert.enc (s:Alert):List D:=[.str s.Id,.str s.Sender,.int .i64 s.Kind,dl eS s.Refs,.int .i64 s.At,.int .i64 s.Until,.int .i64 s.Weight,dl Rect.enc s.Areas,.str s.Text]
abbrev Alert.v (s:Alert):List V:=[(vS s.Id),(vS s.Sender),(vI s.Kind),(vL eS s.Refs),(vI s.At),(vI s.Until),(vI s.Weight),(vL Rect.enc s.Areas),(vS s.Text)]

structure Post where
  Player:ByteArray
  X:Int
  Y:Int
def Post.enc (s:Post):List D:=[.str s.Player,.int .i64 s.X,.int .i64 s.Y]
abbrev Post.v (s:Post):List V:=[(vS s.Player),(vI s.X),(vI s.Y)]

structure Receipt where
  Player:ByteArray
  Alert:ByteArray
  At:Int
  Seen:Bool
def Receipt.enc (s:Receipt):List D:=[.str s.Player,.str s.Alert,.int .i64 s.At,.bool s.Seen]
abbrev Receipt.v (s:Receipt):List V:=[(vS s.Player),(vS s.Alert),(vI s.At),(vB s.Seen)]

def Alert.encW (s:Alert):List D:=[.str s.Id,.str s.Sender,.int .i64 s.Kind,.wild 1 s.Refs.length,.int .i64 s.At,.int .i64 s.Until,.int .i64 s.Weight,.wild 4 s.Areas.length,.str s.Text]

structure Debt where
  Player:ByteArray
  Alert:ByteArray
  Due:Int
  Got:Int
def Debt.enc (s:Debt):List D:=[.str s.Player,.str s.Alert,.int .i64 s.Due,.int .i64 s.Got]
abbrev Debt.v (s:Debt):List V:=[(vS s.Player),(vS s.Alert),(vI s.Due),(vI s.Got)]

structure Pair where
  f_player:ByteArray
  f_alert:ByteArray
def Pair.enc (s:Pair):List D:=[.str s.f_player,.str s.f_alert]

structure Pair_ where
  Name:ByteArray
  Value:ByteArray
def Pair_.enc (s:Pair_):List D:=[.str s.Name,.str s.Value]

structure Run where
  f_from:Int
  f_to:Int
def Run.enc (s:Run):List D:=[.int .i64 s.f_from,.int .i64 s.f_to]

structure Entry where
  Key:ByteArray
  Item:ByteArray
  Version:Int
  First:Int
  Last:Int
  Every:Int
  Days:Int
  Except:(List Int)
  From:Int
  To:Int
  Prio:Int
  Tags:(List ByteArray)
  Gone:Bool
def Entry.enc (s:Entry):List D:=[.str s.Key,.str s.Item,.int .i64 s.Version,.int .i64 s.First,.int .i64 s.Last,.int .i64 s.Every,.int .i64 s.Days,dl eI s.Except,.int .i64 s.From,.int .i64 s.To,.int .i64 s.Prio,dl eS s.Tags,.bool s.Gone]
abbrev Entry.v (s:Entry):List V:=[(vS s.Key),(vS s.Item),(vI s.Version),(vI s.First),(vI s.Last),(vI s.Every),(vI s.Days),(vL eI s.Except),(vI s.From),(vI s.To),(vI s.Prio),(vL eS s.Tags),(vB s.Gone)]

structure Window where
  From:Int
  To:Int
def Window.enc (s:Window):List D:=[.int .i64 s.From,.int .i64 s.To]

structure Campaign where
  Key:ByteArray
  Class:ByteArray
  Time:Window
  Tags:(List ByteArray)
  Goal:Int
  Most:Int
  Cents:Int
def Campaign.enc (s:Campaign):List D:=[.str s.Key,.str s.Class,.int .i64 s.Time.From,.int .i64 s.Time.To,dl eS s.Tags,.int .i64 s.Goal,.int .i64 s.Most,.int .i64 s.Cents]
abbrev Campaign.v (s:Campaign):List V:=[(vS s.Key),(vS s.Class),(vI s.Time.From),(vI s.Time.To),(vL eS s.Tags),(vI s.Goal),(vI s.Most),(vI s.Cents)]

structure Beat where
  Player:ByteArray
  At:Int
  Clock:Int
def Beat.enc (s:Beat):List D:=[.str s.Player,.int .i64 s.At,.int .i64 s.Clock]
abbrev Beat.v (s:Beat):List V:=[(vS s.Player),(vI s.At),(vI s.Clock)]

structure Beat_ where
  f_from:Int
  f_to:Int
def Beat_.enc (s:Beat_):List D:=[.int .i64 s.f_from,.int .i64 s.f_to]

def ve (d:Int) (a:Int):Option (Int) :=
  bif (decide (a<1))then some 0 else (MP .i64 d a).bind λb=>(bif (decide (b<0))then some (w64 (b+a))else some b).bind λc=>some c
def jd (a:Stream) (b:Int):Option (Int×Stream) :=
  bif ((a.L.length:Int)==0)then (ve (w64 ((w64 (a.f_at+1))*7919)) b).bind λg=>some (g,(⟨a.L,(w64 (a.f_at+1))⟩:Stream))else (MP .i64 (w64 ((w64 (a.f_at+1))-1)) (a.L.length:Int)).bind λc=>(N9 .i64 (w64 ((w64 (a.f_at+1))-1)) (a.L.length:Int)).bind λd=>(idx a.L c).bind λh=>(ve h 1073741824).bind λe=>(ve (w64 (e+(w64 (d*(w64 (7919+c)))))) b).bind λf=>some (f,(⟨a.L,(w64 (a.f_at+1))⟩:Stream))
def cZ (d:Stream) (a:Int) (b:Int):Option (Int×Stream) :=
  bif (decide (b<a))then some (a,d)else (jd d (w64 ((w64 (b-a))+1))).bind λc=>some ((w64 (a+c.1)),c.2)
def iG (c:Stream) (a:(List ByteArray)):Option (ByteArray×Stream) :=
  (jd c (a.length:Int)).bind λb=>(idx a b.1).bind λd=>some (d,b.2)
def jM (c:Stream) (a:(List Int)):Option (Int×Stream) :=
  (jd c (a.length:Int)).bind λb=>(idx a b.1).bind λd=>some (d,b.2)
def jf (c:Stream) (b:Int):Option (Bool×Stream) :=
  (jd c b).bind λa=>some ((a.1==0),a.2)
def ko (e:Stream):Option (Rect×Stream) :=
  (cZ e (-2) 8).bind λb=>(cZ b.2 (-2) 8).bind λc=>(cZ c.2 1 5).bind λd=>(cZ d.2 1 5).bind λa=>some ((⟨b.1,c.1,d.1,a.1⟩:Rect),a.2)
def nJ (a:Alert) (b:Alert):Option (Int) :=
  bif (a.At != b.At)then some (w64 (a.At-b.At))else bif (sLt a.Id b.Id)then some (-1)else some 1
def uE (c:Int):Option (Int) :=
  (bif (decide (c>=4294967296))then (P9 .u64 c 32).bind λh=>some (h,32)else some (c,0)).bind λa=>(bif (decide (a.1>=65536))then (P9 .u64 a.1 16).bind λf=>some (f,(w64 (a.2+16)))else some (a.1,a.2)).bind λb=>(bif (decide (b.1>=256))then (P9 .u64 b.1 8).bind λg=>some (g,(w64 (b.2+8)))else some (b.1,b.2)).bind λd=>(Be (⟨#[0,1,2,2,3,3,3,3,4,4,4,4,4,4,4,4,5,5,5,5,5,5,5,5,5,5,5,5,5,5,5,5,6,6,6,6,6,6,6,6,6,6,6,6,6,6,6,6,6,6,6,6,6,6,6,6,6,6,6,6,6,6,6,6,7,7,7,7,7,7,7,7,7,7,7,7,7,7,7,7,7,7,7,7,7,7,7,7,7,7,7,7,7,7,7,7,7,7,7,7,7,7,7,7,7,7,7,7,7,7,7,7,7,7,7,7,7,7,7,7,7,7,7,7,7,7,7,7,8,8,8,8,8,8,8,8,8,8,8,8,8,8,8,8,8,8,8,8,8,8,8,8,8,8,8,8,8,8,8,8,8,8,8,8,8,8,8,8,8,8,8,8,8,8,8,8,8,8,8,8,8,8,8,8,8,8,8,8,8,8,8,8,8,8,8,8,8,8,8,8,8,8,8,8,8,8,8,8,8,8,8,8,8,8,8,8,8,8,8,8,8,8,8,8,8,8,8,8,8,8,8,8,8,8,8,8,8,8,8,8,8,8,8,8,8,8,8,8,8,8,8,8,8,8,8,8]⟩:ByteArray) (IntKind.u8.wrap d.1)).bind λe=>some (w64 (d.2+(w64 (e.toNat:Int))))
def iI (b:Int):Option (Int) :=
  (uE b).bind λa=>some a
def fe (c:Int) (a:(List Alert)×Int):Option (Ctl ((List Alert)×Int) (Unit)) :=
  (bif (decide (a.2>c))then (inR a.2 a.1).bind λ_=>(a.1[(0+(a.2).toNat)]?).bind λd=>(inR (w64 (a.2-1)) a.1).bind λ_=>(a.1[(0+((w64 (a.2-1))).toNat)]?).bind λe=>(nJ d e).bind λg=>some (decide (g<0))else some false).bind λh=>bif h then (inR (w64 (a.2-1)) a.1).bind λ_=>(a.1[(0+((w64 (a.2-1))).toNat)]?).bind λb=>(inR a.2 a.1).bind λ_=>(a.1[(0+(a.2).toNat)]?).bind λf=>(inR a.2 a.1).bind λ_=>(a.1[(0+(a.2).toNat)]?).bind λi=>(inR (w64 (a.2-1)) (a.1.set (0+(a.2).toNat) b)).bind λ_=>((a.1.set (0+(a.2).toNat) b)[(0+((w64 (a.2-1))).toNat)]?).bind λj=>some (.go (((a.1.set (0+(a.2).toNat) b).set (0+((w64 (a.2-1))).toNat) f),(w64 (a.2-1))))else some (.brk (a.1,a.2))
noncomputable def fu (c:Int) (b:Int) (a:(List Alert)×Int):Option (Ctl ((List Alert)×Int) (Unit)) :=
  bif (decide (a.2<c))then (jK (a.1,a.2) (λs=>fe b s)).bind λd=>thenC d (λe=>some (.go (e.1,(w64 (a.2+1))))) (λ_=>none)else some (.brk (a.1,a.2))
noncomputable def fZ (c:(List Alert)) (a:Int) (b:Int):Option ((List Alert)) :=
  (jK (c,(w64 (a+1))) (λs=>fu b a s)).bind λd=>thenC d (λe=>some e.1) (λ_=>none)
noncomputable def gU (b:Int) (a:Int) (c:(List Alert)) (e:Int) (f:Unit):Option (Ctl (Unit) ((List Alert))) :=
  bif (decide ((w64 (b-a))<=12))then (fZ c a b).bind λd=>(iP d c).bind λ_=>some (.ret d)else bif (e==0)then none else none
noncomputable def iR (a:(List Alert)) (b:Int) (c:Int) (d:Int):Option ((List Alert)) :=
  (jK () (λs=>gU c b a d s)).bind λe=>thenC e (λf=>some a) (λr=>some r)
noncomputable def dn (a:(List Alert)):Option ((List Alert)) :=
  (iI (IntKind.u64.wrap (a.length:Int))).bind λc=>(iR a 0 (a.length:Int) c).bind λb=>(iP b a).bind λ_=>some b
def eu (g:ByteArray) (h:Nat) (d:ByteArray) (a:(List ByteArray)×(List Int)×Int):Option (Ctl ((List ByteArray)×(List Int)×Int) (Unit)) :=
  (bif (sNe d g)then (jf (⟨a.2.1,a.2.2⟩:Stream) 3).bind λb=>some (b.1,b.2.L,b.2.f_at)else some (false,a.2.1,a.2.2)).bind λc=>(bif c.1 then (mK a.1 ([d]:List ByteArray)).bind λe=>some e else some a.1).bind λf=>some (.go (f,c.2.1,c.2.2))
def d9 (d:Nat) (e:Nat) (b:(List Rect)×(List Int)×Int):Option (Ctl ((List Rect)×(List Int)×Int) (Unit)) :=
  (ko (⟨b.2.1,b.2.2⟩:Stream)).bind λa=>(mK b.1 ([a.1]:List Rect)).bind λc=>some (.go (c,a.2.L,a.2.f_at))
def fO (t:Nat) (o:ByteArray) (i:(List Alert)×(List Int)×Int):Option (Ctl ((List Alert)×(List Int)×Int) (Unit)) :=
  (iG (⟨i.2.1,i.2.2⟩:Stream) ([(⟨#[119,120]⟩:ByteArray),(⟨#[119,120]⟩:ByteArray),(⟨#[102,105,114,101]⟩:ByteArray)]:List ByteArray)).bind λl=>(jM l.2 ([1,1,2,2,3]:List Int)).bind λd=>(cZ d.2 0 6).bind λf=>(jM f.2 ([1,5,5,9]:List Int)).bind λm=>(iG m.2 ([(⟨#[102,108,111,111,100]⟩:ByteArray),(⟨#[102,105,114,101,32,105,110,32,116,104,101,32,109,97,108,108]⟩:ByteArray)]:List ByteArray)).bind λn=>(jM n.2 ([1,10,20,50]:List Int)).bind λb=>(bif (d.1 != 1)then (forL ([(⟨#[97,97]⟩:ByteArray),(⟨#[97,98]⟩:ByteArray),(⟨#[97,99]⟩:ByteArray),(⟨#[97,100]⟩:ByteArray),(⟨#[122,122]⟩:ByteArray)]:List ByteArray) (([]:List ByteArray),b.2.L,b.2.f_at) (λk x s=>eu o k x s)).bind λq=>thenC q (λa=>bif ((a.1.length:Int)==0)then some (a.2.1,a.2.2,([(⟨#[122,121]⟩:ByteArray)]:List ByteArray))else some (a.2.1,a.2.2,a.1)) (λ_=>none)else some (b.2.L,b.2.f_at,([]:List ByteArray))).bind λc=>(bif (d.1==3)then (iG (⟨c.1,c.2.1⟩:Stream) ([(⟨#[]⟩:ByteArray),(⟨#[111,118,101,114]⟩:ByteArray)]:List ByteArray)).bind λg=>some (([]:List Rect),g.2.L,g.2.f_at,g.1)else (cZ (⟨c.1,c.2.1⟩:Stream) 1 2).bind λh=>(forL (List.range (h.1).toNat) (([]:List Rect),h.2.L,h.2.f_at) (λk x s=>d9 k x s)).bind λr=>thenC r (λj=>some (j.1,j.2.1,j.2.2,n.1)) (λ_=>none)).bind λe=>(mK i.1 ([(⟨o,l.1,d.1,c.2.2,(w64 (f.1*5)),(w64 ((w64 (f.1*5))+b.1)),m.1,e.1,e.2.2.2⟩:Alert)]:List Alert)).bind λp=>some (.go (p,e.2.1,e.2.2.1))
noncomputable def fU (f:Stream) (d:Int):Option ((List Alert)×Stream) :=
  (cZ f 0 d).bind λb=>(J4 ([(⟨#[97,97]⟩:ByteArray),(⟨#[97,98]⟩:ByteArray),(⟨#[97,99]⟩:ByteArray),(⟨#[97,100]⟩:ByteArray),(⟨#[97,101]⟩:ByteArray),(⟨#[97,102]⟩:ByteArray)]:List ByteArray) 0 b.1).bind λg=>(forL g (([]:List Alert),b.2.L,b.2.f_at) (λk x s=>fO k x s)).bind λe=>thenC e (λa=>(dn a.1).bind λc=>(iP c a.1).bind λ_=>some (c,(⟨a.2.1,a.2.2⟩:Stream))) (λ_=>none)
def gz (h:Nat) (g:ByteArray) (b:(List Post)×(List Int)×Int):Option (Ctl ((List Post)×(List Int)×Int) (Unit)) :=
  (jf (⟨b.2.1,b.2.2⟩:Stream) 5).bind λa=>(bif (!a.1)then (cZ a.2 (-2) 10).bind λe=>(cZ e.2 (-2) 10).bind λc=>(mK b.1 ([(⟨g,e.1,c.1⟩:Post)]:List Post)).bind λf=>some (f,c.2.L,c.2.f_at)else some (b.1,a.2.L,a.2.f_at)).bind λd=>some (.go (d.1,d.2.1,d.2.2))
def iX (b:Stream):Option ((List Post)×Stream) :=
  (forL ([(⟨#[112,97]⟩:ByteArray),(⟨#[112,98]⟩:ByteArray),(⟨#[112,99]⟩:ByteArray)]:List ByteArray) (([]:List Post),b.L,b.f_at) (λk x s=>gz k x s)).bind λc=>thenC c (λa=>some (a.1,(⟨a.2.1,a.2.2⟩:Stream))) (λ_=>none)
def p8 (f:Stream) (b:Int) (a:Int):Option (Int×Stream) :=
  (jf f 12).bind λc=>bif c.1 then (jM c.2 ([(w64 (b-1)),(w64 (a+1)),b,a,(-1099511627776),1099511627776]:List Int)).bind λe=>some (e.1,e.2)else (cZ c.2 b a).bind λd=>some (d.1,d.2)
def jB (h:ByteArray) (f:ByteArray) (i:Nat) (g:Bool) (b:(List Receipt)×(List Int)×Int):Option (Ctl ((List Receipt)×(List Int)×Int) (Unit)) :=
  (jf (⟨b.2.1,b.2.2⟩:Stream) 3).bind λa=>(bif a.1 then (cZ a.2 0 50).bind λc=>(mK b.1 ([(⟨h,f,c.1,g⟩:Receipt)]:List Receipt)).bind λe=>some (e,c.2.L,c.2.f_at)else some (b.1,a.2.L,a.2.f_at)).bind λd=>some (.go (d.1,d.2.1,d.2.2))
def jA (e:ByteArray) (f:Nat) (d:ByteArray) (a:(List Receipt)×(List Int)×Int):Option (Ctl ((List Receipt)×(List Int)×Int) (Unit)) :=
  (forL ([false,true]:List Bool) (a.1,a.2.1,a.2.2) (λk x s=>jB e d k x s)).bind λc=>thenC c (λb=>some (.go (b.1,b.2.1,b.2.2))) (λ_=>none)
def jw (e:Nat) (d:ByteArray) (b:(List Receipt)×(List Int)×Int):Option (Ctl ((List Receipt)×(List Int)×Int) (Unit)) :=
  (forL ([(⟨#[97,97]⟩:ByteArray),(⟨#[97,98]⟩:ByteArray),(⟨#[97,99]⟩:ByteArray)]:List ByteArray) (b.1,b.2.1,b.2.2) (λk x s=>jA d k x s)).bind λc=>thenC c (λa=>some (.go (a.1,a.2.1,a.2.2))) (λ_=>none)
def jD (m:Stream):Option ((List Receipt)×Stream) :=
  (forL ([(⟨#[112,97]⟩:ByteArray),(⟨#[112,98]⟩:ByteArray),(⟨#[112,99]⟩:ByteArray)]:List ByteArray) (([]:List Receipt),m.L,m.f_at) (λk x s=>jw k x s)).bind λp=>thenC p (λa=>(bif (decide ((a.1.length:Int)>0))then (jf (⟨a.2.1,a.2.2⟩:Stream) 15).bind λh=>some (h.1,h.2.L,h.2.f_at)else some (false,a.2.1,a.2.2)).bind λe=>(bif e.1 then (jd (⟨e.2.1,e.2.2⟩:Stream) (a.1.length:Int)).bind λb=>(inR b.1 a.1).bind λ_=>(a.1[(0+(b.1).toNat)]?).bind λn=>(iG b.2 ([n.Player,(⟨#[]⟩:ByteArray),(⟨#[122,122]⟩:ByteArray)]:List ByteArray)).bind λf=>(a.1[(0+(b.1).toNat)]?).bind λo=>(iG f.2 ([o.Alert,(⟨#[65]⟩:ByteArray)]:List ByteArray)).bind λi=>(p8 i.2 0 50).bind λj=>(a.1[(0+(b.1).toNat)]?).bind λc=>((a.1.set (0+(b.1).toNat) (⟨f.1,c.Alert,c.At,c.Seen⟩:Receipt))[(0+(b.1).toNat)]?).bind λd=>(((a.1.set (0+(b.1).toNat) (⟨f.1,c.Alert,c.At,c.Seen⟩:Receipt)).set (0+(b.1).toNat) (⟨d.Player,i.1,d.At,d.Seen⟩:Receipt))[(0+(b.1).toNat)]?).bind λg=>some ((((a.1.set (0+(b.1).toNat) (⟨f.1,c.Alert,c.At,c.Seen⟩:Receipt)).set (0+(b.1).toNat) (⟨d.Player,i.1,d.At,d.Seen⟩:Receipt)).set (0+(b.1).toNat) (⟨g.Player,g.Alert,j.1,g.Seen⟩:Receipt)),j.2.L,j.2.f_at)else some (a.1,e.2.1,e.2.2)).bind λl=>some (l.1,(⟨l.2.1,l.2.2⟩:Stream))) (λ_=>none)
def lM (c:ByteArray) (b:Int):Option (Ctl (Int) (Bool)) :=
  bif (decide (b<(c.size:Int)))then (Be c b).bind λa=>(bif (decide ((a.toNat:Int)>=97))then bif (decide ((a.toNat:Int)<=122))then some false else bif (decide (b>0))then bif (decide ((a.toNat:Int)>=48))then bif (decide ((a.toNat:Int)<=57))then some false else bif ((a.toNat:Int)==45)then some false else some (!((a.toNat:Int)==95))else bif ((a.toNat:Int)==45)then some false else some (!((a.toNat:Int)==95))else some true else bif (decide (b>0))then bif (decide ((a.toNat:Int)>=48))then bif (decide ((a.toNat:Int)<=57))then some false else bif ((a.toNat:Int)==45)then some false else some (!((a.toNat:Int)==95))else bif ((a.toNat:Int)==45)then some false else some (!((a.toNat:Int)==95))else some true).bind λd=>bif d then some (.ret false)else some (.go (w64 (b+1)))else some (.brk b)
noncomputable def kit_IsKey (a:ByteArray):Option (Bool) :=
  (jK 0 (λs=>lM a s)).bind λb=>thenC b (λd=>(bif (sNe a (⟨#[]⟩:ByteArray))then some (decide ((a.size:Int)<=40))else some false).bind λc=>some c) (λr=>some r)
def aY (a:Int) (c:Int) (b:Int):Option (Bool) :=
  (bif (decide (a<c))then some true else some (decide (a>b))).bind λd=>some d
noncomputable def dZ (b:Alert) (c:Nat) (a:ByteArray) (g:Unit):Option (Ctl (Unit) (Int)) :=
  (kit_IsKey a).bind λd=>bif (!d)then some (.ret 5)else (bif (decide ((c:Int)>0))then (idx b.Refs (w64 ((c:Int)-1))).bind λf=>some (sLe a f)else some false).bind λe=>bif e then some (.ret 7)else bif (sEq a b.Id)then some (.ret 14)else some (.go ())
noncomputable def iJ (a:Alert):Option (Int) :=
  bif (decide ((a.Refs.length:Int)>20))then some 2 else (forL a.Refs () (λk x s=>dZ a k x s)).bind λb=>thenC b (λc=>bif (!((a.Kind==1)==((a.Refs.length:Int)==0)))then some 3 else some 0) (λr=>some r)
def bX (a:Int):Option (Bool) :=
  (bif (decide (a>=0))then some (decide (a<345686400000))else some false).bind λb=>some b
def jI (a:Rect):Option (Int) :=
  ((aY a.X (-100000) 100000).bind λd=>bif d then some true else (aY a.Y (-100000) 100000).bind λe=>some e).bind λg=>bif g then some 1 else ((aY a.W 1 (w64 (100000-a.X))).bind λb=>bif b then some true else (aY a.H 1 (w64 (100000-a.Y))).bind λc=>some c).bind λf=>bif f then some 1 else some 0
def lN (x0:ByteArray):Option (Bool) :=
  NC x0
def jL (c:Int) (a:ByteArray):Option (Ctl (ByteArray) (Unit)) :=
  (bif (decide ((a.size:Int)>0))then (Be a (w64 ((a.size:Int)-1))).bind λb=>some ((b.toNat:Int)==c)else some false).bind λd=>bif d then (Mj a 0 (w64 ((a.size:Int)-1))).bind λe=>some (.go e)else some (.brk a)
noncomputable def strings_trimRightByte (c:ByteArray) (a:Int):Option (ByteArray) :=
  (jK c (λs=>jL a s)).bind λb=>thenC b (λd=>some d) (λ_=>none)
def jT (c:Int) (a:ByteArray):Option (Ctl (ByteArray) (Unit)) :=
  (bif (decide ((a.size:Int)>0))then (Be a 0).bind λb=>some ((b.toNat:Int)==c)else some false).bind λd=>bif d then (Mj a 1 a.size).bind λe=>some (.go e)else some (.brk a)
noncomputable def strings_trimLeftByte (c:ByteArray) (a:Int):Option (ByteArray) :=
  (jK c (λs=>jT a s)).bind λb=>thenC b (λd=>some d) (λ_=>none)
noncomputable def q8 (b:ByteArray) (a:ByteArray):Option (ByteArray) :=
  (bif (sEq b (⟨#[]⟩:ByteArray))then some true else some (sEq a (⟨#[]⟩:ByteArray))).bind λh=>bif h then some b else (bif ((a.size:Int)==1)then (Be a 0).bind λc=>some (decide ((c.toNat:Int)<128))else some false).bind λi=>bif i then (Be a 0).bind λd=>(strings_trimRightByte b (d.toNat:Int)).bind λf=>(Be a 0).bind λe=>(strings_trimLeftByte f (e.toNat:Int)).bind λg=>some g else none
def strings_Contains (x0:ByteArray) (x1:ByteArray):Option (Bool) :=
  EB x0 x1
def rH (b:ByteArray) (a:Int):Option (Ctl (Int) (Bool)) :=
  bif (decide (a<(b.size:Int)))then ((Be b a).bind λc=>bif (decide ((c.toNat:Int)<32))then some true else (Be b a).bind λd=>some ((d.toNat:Int)==127)).bind λe=>bif e then some (.ret false)else some (.go (w64 (a+1)))else some (.brk a)
noncomputable def mQ (a:ByteArray):Option (Bool) :=
  (jK 0 (λs=>rH a s)).bind λb=>thenC b (λg=>((lN a).bind λc=>bif c then (q8 a (⟨#[32]⟩:ByteArray)).bind λd=>bif (sEq d a)then (strings_Contains a (⟨#[32,32]⟩:ByteArray)).bind λe=>some (!e)else some false else some false).bind λf=>some f) (λr=>some r)
def eQ (c:Nat) (b:Rect) (d:Unit):Option (Ctl (Unit) (Int)) :=
  (jI b).bind λa=>bif (a != 0)then some (.ret a)else some (.go ())
noncomputable def gP (a:Alert):Option (Int) :=
  ((kit_IsKey a.Id).bind λi=>bif (!i)then some true else (kit_IsKey a.Sender).bind λj=>some (!j)).bind λm=>bif m then some 5 else (aY a.Kind 1 3).bind λd=>bif d then some 4 else (iJ a).bind λb=>bif (b != 0)then some b else ((bX a.At).bind λe=>bif (!e)then some true else (aY a.Until (w64 (a.At+1)) (w64 (a.At+2592000000))).bind λf=>bif f then some true else (aY a.Weight 1 9).bind λg=>some g).bind λl=>bif l then some 1 else bif (decide ((a.Areas.length:Int)>20))then some 2 else (forL a.Areas () (λk x s=>eQ k x s)).bind λc=>thenC c (λo=>bif (!((a.Kind==3)==((a.Areas.length:Int)==0)))then some 3 else bif (decide ((a.Text.size:Int)>500))then some 2 else ((mQ a.Text).bind λh=>bif (!h)then some true else bif (sEq a.Text (⟨#[]⟩:ByteArray))then some (!(a.Kind==3))else some false).bind λn=>bif n then some 3 else some 0) (λr=>some r)
def cmp_isNaN_int (a:Int):Option (Bool) :=
  some (a != a)
def cmp_Compare_int (a:Int) (b:Int):Option (Int) :=
  (cmp_isNaN_int a).bind λd=>(cmp_isNaN_int b).bind λc=>bif d then bif c then some 0 else some (-1)else bif c then some 1 else bif (decide (a<b))then some (-1)else bif (decide (a>b))then some 1 else some 0
def jJ (a:ByteArray) (b:ByteArray):Option (Int) :=
  some (zF a b)
def strings_Compare (a:ByteArray) (b:ByteArray):Option (Int) :=
  (jJ a b).bind λc=>some c
def qb (b:Nat) (a:Int) (c:Unit):Option (Ctl (Unit) (Int)) :=
  bif (a != 0)then some (.ret a)else some (.go ())
def jG (b:(List Int)):Option (Int) :=
  (forL b () (λk x s=>qb k x s)).bind λa=>thenC a (λc=>some 0) (λr=>some r)
def ja (a:Alert) (b:Alert):Option (Int) :=
  (cmp_Compare_int a.At b.At).bind λc=>(strings_Compare a.Id b.Id).bind λd=>(jG ([c,d]:List Int)).bind λe=>some e
noncomputable def gK (d:(List Alert)) (a:Nat) (c:Alert) (h:Unit):Option (Ctl (Unit) (Int)) :=
  (gP c).bind λb=>bif (b != 0)then some (.ret b)else (bif (decide ((a:Int)>0))then (idx d (w64 ((a:Int)-1))).bind λg=>(ja g c).bind λe=>some (decide (e>=0))else some false).bind λf=>bif f then some (.ret 7)else some (.go ())
def gJ (c:Nat) (b:Alert) (a:(List (ByteArray×Bool))):Option (Ctl ((List (ByteArray×Bool))) (Int)) :=
  bif ((mGet eqS a b.Id).getD false)then some (.ret 6)else some (.go (zY eqS a b.Id true))
noncomputable def iA (a:(List Alert)):Option (Int) :=
  bif (decide ((a.length:Int)>300))then some 2 else (forL a () (λk x s=>gK a k x s)).bind λb=>thenC b (λe=>(forL a ([]:List (ByteArray×Bool)) (λk x s=>gJ k x s)).bind λc=>thenC c (λd=>some 0) (λr=>some r)) (λr=>some r)
def dS (a:Int):Option Bool :=
  bif (decide (a<0))then none else bif (decide ((w64 (a-(w64 (0-0))))>0))then (zN (w64 (a-(w64 (0-0)))) 128).bind λ_=>some true else some false
def bD (c:Nat) (b:(List Alert)) (a:Int):Option (Ctl (Int) (Unit)) :=
  (bif (decide ((w64 (a+(b.length:Int)))<0))then none else some ()).bind λd=>some (.go (w64 (a+(b.length:Int))))
def bC (d:Nat) (c:(List Alert)) (b:(List Alert)):Option (Ctl ((List Alert)) (Unit)) :=
  (mK b c).bind λa=>some (.go a)
def dR (a:(List (List Alert))):Option ((List Alert)) :=
  (forL a 0 (λk x s=>bD k x s)).bind λb=>thenC b (λe=>(dS e).bind λf=>(forL a ([]:List Alert) (λk x s=>bC k x s)).bind λc=>thenC c (λd=>some d) (λ_=>none)) (λ_=>none)
def gG (b:(List ByteArray)):Option ((List ByteArray)) :=
  (mK [] b).bind λa=>some a
def eX (b:(List Rect)):Option ((List Rect)) :=
  (mK [] b).bind λa=>some a
def tQ (a:Alert):Option (Alert) :=
  (gG a.Refs).bind λb=>(eX a.Areas).bind λc=>some (⟨a.Id,a.Sender,a.Kind,b,a.At,a.Until,a.Weight,c,a.Text⟩:Alert)
def dN (s2_2:(List ByteArray)) (a:Nat) (b:ByteArray) (d:Unit):Option (Ctl (Unit) (Bool)) :=
  (idx s2_2 (a:Int)).bind λc=>bif (sNe b c)then some (.ret false)else some (.go ())
def gH (s1_1:(List ByteArray)) (s2_2:(List ByteArray)):Option (Bool) :=
  bif ((s1_1.length:Int) != (s2_2.length:Int))then some false else (forL s1_1 () (λk x s=>dN s2_2 k x s)).bind λa=>thenC a (λb=>some true) (λr=>some r)
def dh (s2_2:(List Rect)) (c:Nat) (a:Rect) (d:Unit):Option (Ctl (Unit) (Bool)) :=
  (idx s2_2 (c:Int)).bind λb=>bif (!((a.X==b.X)&&((a.Y==b.Y)&&((a.W==b.W)&&((a.H==b.H)&&true)))))then some (.ret false)else some (.go ())
def eY (s1_1:(List Rect)) (s2_2:(List Rect)):Option (Bool) :=
  bif ((s1_1.length:Int) != (s2_2.length:Int))then some false else (forL s1_1 () (λk x s=>dh s2_2 k x s)).bind λa=>thenC a (λb=>some true) (λr=>some r)
def vZ (a:Alert) (b:Alert):Option (Bool) :=
  (bif (sEq a.Id b.Id)then bif (sEq a.Sender b.Sender)then bif (a.Kind==b.Kind)then (gH a.Refs b.Refs).bind λc=>bif c then bif (a.At==b.At)then bif (a.Until==b.Until)then bif (a.Weight==b.Weight)then (eY a.Areas b.Areas).bind λd=>bif d then some (sEq a.Text b.Text)else some false else some false else some false else some false else some false else some false else some false else some false).bind λe=>some e
def sN (a:Alert) (b:Alert):Option (Int) :=
  (cmp_Compare_int a.At b.At).bind λc=>(strings_Compare a.Id b.Id).bind λd=>(jG ([c,d]:List Int)).bind λe=>some e
def fB (c:Int) (a:(List Alert)×Int):Option (Ctl ((List Alert)×Int) (Unit)) :=
  (bif (decide (a.2>c))then (inR a.2 a.1).bind λ_=>(a.1[(0+(a.2).toNat)]?).bind λd=>(inR (w64 (a.2-1)) a.1).bind λ_=>(a.1[(0+((w64 (a.2-1))).toNat)]?).bind λe=>(sN d e).bind λg=>some (decide (g<0))else some false).bind λh=>bif h then (inR (w64 (a.2-1)) a.1).bind λ_=>(a.1[(0+((w64 (a.2-1))).toNat)]?).bind λb=>(inR a.2 a.1).bind λ_=>(a.1[(0+(a.2).toNat)]?).bind λf=>(inR a.2 a.1).bind λ_=>(a.1[(0+(a.2).toNat)]?).bind λi=>(inR (w64 (a.2-1)) (a.1.set (0+(a.2).toNat) b)).bind λ_=>((a.1.set (0+(a.2).toNat) b)[(0+((w64 (a.2-1))).toNat)]?).bind λj=>some (.go (((a.1.set (0+(a.2).toNat) b).set (0+((w64 (a.2-1))).toNat) f),(w64 (a.2-1))))else some (.brk (a.1,a.2))
noncomputable def fw (c:Int) (b:Int) (a:(List Alert)×Int):Option (Ctl ((List Alert)×Int) (Unit)) :=
  bif (decide (a.2<c))then (jK (a.1,a.2) (λs=>fB b s)).bind λd=>thenC d (λe=>some (.go (e.1,(w64 (a.2+1))))) (λ_=>none)else some (.brk (a.1,a.2))
noncomputable def fQ (c:(List Alert)) (a:Int) (b:Int):Option ((List Alert)) :=
  (jK (c,(w64 (a+1))) (λs=>fw b a s)).bind λd=>thenC d (λe=>some e.1) (λ_=>none)
noncomputable def ic (b:Int) (a:Int) (c:(List Alert)) (e:Int) (f:Unit):Option (Ctl (Unit) ((List Alert))) :=
  bif (decide ((w64 (b-a))<=12))then (fQ c a b).bind λd=>(iP d c).bind λ_=>some (.ret d)else bif (e==0)then none else none
noncomputable def iV (a:(List Alert)) (b:Int) (c:Int) (d:Int):Option ((List Alert)) :=
  (jK () (λs=>ic c b a d s)).bind λe=>thenC e (λf=>some a) (λr=>some r)
noncomputable def dX (a:(List Alert)):Option ((List Alert)) :=
  (iI (IntKind.u64.wrap (a.length:Int))).bind λc=>(iV a 0 (a.length:Int) c).bind λb=>(iP b a).bind λ_=>some b
noncomputable def jO (b:(List Alert)) (c:(List Alert)) (d:Nat) (g:Nat) (f:Unit):Option (Ctl (Unit) ((List Alert)×Int)) :=
  (idx ([b,c]:List (List Alert)) (d:Int)).bind λe=>(iA e).bind λa=>bif (a != 0)then some (.ret (([]:(List Alert)),a))else some (.go ())
def kJ (f:Nat) (b:Alert) (a:(List (ByteArray×Alert))×(List Alert)):Option (Ctl ((List (ByteArray×Alert))×(List Alert)) ((List Alert)×Int)) :=
  bif (!((mGet eqS a.1 b.Id).isSome))then (tQ b).bind λd=>(mK a.2 ([d]:List Alert)).bind λc=>some (.go ((zY eqS a.1 b.Id b),c))else (vZ ((mGet eqS a.1 b.Id).getD (⟨(⟨#[]⟩:ByteArray),(⟨#[]⟩:ByteArray),0,([]:List ByteArray),0,0,0,([]:List Rect),(⟨#[]⟩:ByteArray)⟩:Alert)) b).bind λe=>bif (!e)then some (.ret (([]:(List Alert)),13))else some (.go (a.1,a.2))
noncomputable def qK (b:(List Alert)) (c:(List Alert)):Option ((List Alert)×Int) :=
  (forL (List.range (2:Int).toNat) () (λk x s=>jO b c k x s)).bind λe=>thenC e (λh=>(dR ([b,c]:List (List Alert))).bind λg=>(forL g (([]:List (ByteArray×Alert)),([]:List Alert)) (λk x s=>kJ k x s)).bind λf=>thenC f (λa=>bif (decide ((a.2.length:Int)>300))then some (([]:(List Alert)),2)else (dX a.2).bind λd=>(iP d a.2).bind λ_=>some (d,0)) (λr=>some r)) (λr=>some r)
def jU (b:(List ByteArray)) (a:Nat) (d:Nat) (c:Unit):Option (Ctl (Unit) (Unit)) :=
  (inR (a:Int) b).bind λ_=>some (.go ())
def lD (a:(List ByteArray)):Option (Unit) :=
  (forL (List.range ((a.length:Int)).toNat) () (λk x s=>jU a k x s)).bind λb=>thenC b (λc=>some ()) (λ_=>none)
def jq (b:(List Rect)) (a:Nat) (d:Nat) (c:Unit):Option (Ctl (Unit) (Unit)) :=
  (inR (a:Int) b).bind λ_=>some (.go ())
def kz (a:(List Rect)):Option (Unit) :=
  (forL (List.range ((a.length:Int)).toNat) () (λk x s=>jq a k x s)).bind λb=>thenC b (λc=>some ()) (λ_=>none)
def jc (b:(List Alert)) (a:Nat) (d:Nat) (c:Unit):Option (Ctl (Unit) (Unit)) :=
  (inR (a:Int) b).bind λ_=>some (.go ())
def jS (a:(List Alert)):Option (Unit) :=
  (forL (List.range ((a.length:Int)).toNat) () (λk x s=>jc a k x s)).bind λb=>thenC b (λc=>some ()) (λ_=>none)
def mE (a:Bool):Option (Int) :=
  bif a then some 1 else some 0
def eG (a:Receipt) (b:Receipt):Option (Int) :=
  (strings_Compare a.Player b.Player).bind λf=>(strings_Compare a.Alert b.Alert).bind λg=>(mE a.Seen).bind λh=>(mE b.Seen).bind λc=>(cmp_Compare_int h c).bind λd=>(jG ([f,g,d]:List Int)).bind λe=>some e
noncomputable def gW (c:(List Receipt)) (b:Nat) (a:Receipt) (k:Unit):Option (Ctl (Unit) (Int)) :=
  ((kit_IsKey a.Player).bind λd=>bif (!d)then some true else (kit_IsKey a.Alert).bind λe=>some (!e)).bind λh=>bif h then some (.ret 5)else (bX a.At).bind λf=>bif (!f)then some (.ret 1)else (bif (decide ((b:Int)>0))then (idx c (w64 ((b:Int)-1))).bind λj=>(eG j a).bind λg=>some (decide (g>=0))else some false).bind λi=>bif i then some (.ret 7)else some (.go ())
noncomputable def jh (a:(List Receipt)):Option (Int) :=
  bif (decide ((a.length:Int)>2000))then some 2 else (forL a () (λk x s=>gW a k x s)).bind λb=>thenC b (λc=>some 0) (λr=>some r)
def dD (a:Int):Option Bool :=
  bif (decide (a<0))then none else bif (decide ((w64 (a-(w64 (0-0))))>0))then (zN (w64 (a-(w64 (0-0)))) 48).bind λ_=>some true else some false
def bE (c:Nat) (b:(List Receipt)) (a:Int):Option (Ctl (Int) (Unit)) :=
  (bif (decide ((w64 (a+(b.length:Int)))<0))then none else some ()).bind λd=>some (.go (w64 (a+(b.length:Int))))
def bG (d:Nat) (c:(List Receipt)) (b:(List Receipt)):Option (Ctl ((List Receipt)) (Unit)) :=
  (mK b c).bind λa=>some (.go a)
def lU (a:Receipt) (b:Receipt):Option (Int) :=
  (eG a b).bind λc=>(cmp_Compare_int a.At b.At).bind λd=>(jG ([c,d]:List Int)).bind λe=>some e
noncomputable def iL (x:(List Receipt)):Option ((List Receipt)) :=
  zW (λa b=>lU a b) x
def cK (b:(List (List Receipt))):Option ((List Receipt)) :=
  (forL b 0 (λk x s=>bE k x s)).bind λd=>thenC d (λf=>(dD f).bind λc=>(forL b ([]:List Receipt) (λk x s=>bG k x s)).bind λe=>thenC e (λa=>(kE c a).bind λ_=>some a) (λ_=>none)) (λ_=>none)
def nK (b:Receipt) (c:Receipt):Option (Bool) :=
  (eG b c).bind λa=>some (a==0)
def aW (c:(List Receipt)) (b:Int) (a:(List Receipt)×Int×Int):Option (Ctl ((List Receipt)×Int×Int) (Unit)) :=
  bif (decide (a.2.2<(((((c.length:Int)).toNat-(b).toNat):Nat):Int)))then (inN a.2.2 (((c.length:Int)).toNat-(b).toNat)).bind λ_=>(a.1[(((b).toNat)+(a.2.2).toNat)]?).bind λe=>(inN (w64 (a.2.2-1)) (((c.length:Int)).toNat-(b).toNat)).bind λ_=>(a.1[(((b).toNat)+((w64 (a.2.2-1))).toNat)]?).bind λf=>(nK e f).bind λh=>(bif (!h)then (inN a.2.2 (((c.length:Int)).toNat-(b).toNat)).bind λ_=>(a.1[(((b).toNat)+(a.2.2).toNat)]?).bind λg=>(inR a.2.1 a.1).bind λ_=>(a.1[(0+(a.2.1).toNat)]?).bind λi=>some ((a.1.set (0+(a.2.1).toNat) g),(w64 (a.2.1+1)))else some (a.1,a.2.1)).bind λd=>some (.go (d.1,d.2,(w64 (a.2.2+1))))else some (.brk (a.1,a.2.1,a.2.2))
noncomputable def aO (b:(List Receipt)) (c:Int):Option (Ctl (Int) ((List Receipt))) :=
  bif (decide (c<(b.length:Int)))then (inR c b).bind λ_=>(b[(0+(c).toNat)]?).bind λd=>(inR (w64 (c-1)) b).bind λ_=>(b[(0+((w64 (c-1))).toNat)]?).bind λe=>(nK d e).bind λg=>bif g then (neL b).bind λ_=>(xm b c (b.length:Int)).bind λ_=>(jK (b,c,1) (λs=>aW b c s)).bind λf=>thenC f (λa=>(xm a.1 a.2.1 (a.1.length:Int)).bind λ_=>(xm (a.1.take ((a.2.1).toNat)++List.replicate (((a.1.length:Int)).toNat-(a.2.1).toNat) (⟨(⟨#[]⟩:ByteArray),(⟨#[]⟩:ByteArray),0,false⟩:Receipt)++a.1.drop (((a.2.1).toNat)+(((a.1.length:Int)).toNat-(a.2.1).toNat))) 0 a.2.1).bind λ_=>some (.ret (IW (a.1.take ((a.2.1).toNat)++List.replicate (((a.1.length:Int)).toNat-(a.2.1).toNat) (⟨(⟨#[]⟩:ByteArray),(⟨#[]⟩:ByteArray),0,false⟩:Receipt)++a.1.drop (((a.2.1).toNat)+(((a.1.length:Int)).toNat-(a.2.1).toNat))) 0 ((a.2.1).toNat)))) (λ_=>none)else some (.go (w64 (c+1)))else some (.brk c)
noncomputable def bQ (a:(List Receipt)):Option ((List Receipt)) :=
  bif (decide ((a.length:Int)<2))then some a else (jK 1 (λs=>aO a s)).bind λb=>thenC b (λc=>some a) (λr=>some r)
noncomputable def om (b:(List Receipt)) (c:(List Receipt)) (d:Nat) (g:Nat) (f:Unit):Option (Ctl (Unit) ((List Receipt)×Int)) :=
  (idx ([b,c]:List (List Receipt)) (d:Int)).bind λe=>(jh e).bind λa=>bif (a != 0)then some (.ret (([]:List Receipt),a))else some (.go ())
noncomputable def tF (a:(List Receipt)) (b:(List Receipt)):Option ((List Receipt)×Int) :=
  (forL (List.range (2:Int).toNat) () (λk x s=>om a b k x s)).bind λf=>thenC f (λg=>(cK ([a,b]:List (List Receipt))).bind λc=>(iL c).bind λd=>(iP d c).bind λ_=>(bQ d).bind λe=>bif (decide ((e.length:Int)>2000))then some (([]:List Receipt),2)else some (e,0)) (λr=>some r)
def iO (b:(List Receipt)) (a:Nat) (d:Nat) (c:Unit):Option (Ctl (Unit) (Unit)) :=
  (inR (a:Int) b).bind λ_=>some (.go ())
def jr (a:(List Receipt)):Option (Unit) :=
  (forL (List.range ((a.length:Int)).toNat) () (λk x s=>iO a k x s)).bind λb=>thenC b (λc=>some ()) (λ_=>none)
noncomputable def iy (c:(List Post)) (b:Nat) (a:Post) (j:Unit):Option (Ctl (Unit) (Int)) :=
  (kit_IsKey a.Player).bind λd=>bif (!d)then some (.ret 5)else ((aY a.X (-100000) 100000).bind λe=>bif e then some true else (aY a.Y (-100000) 100000).bind λf=>some f).bind λg=>bif g then some (.ret 1)else (bif (decide ((b:Int)>0))then (idx c (w64 ((b:Int)-1))).bind λi=>some (sLe a.Player i.Player)else some false).bind λh=>bif h then some (.ret 7)else some (.go ())
noncomputable def jE (a:(List Post)):Option (Int) :=
  bif (decide ((a.length:Int)>500))then some 2 else (forL a () (λk x s=>iy a k x s)).bind λb=>thenC b (λc=>some 0) (λr=>some r)
noncomputable def iM (b:(List Alert)) (c:(List Post)):Option (Int) :=
  (iA b).bind λa=>bif (a != 0)then some a else (jE c).bind λd=>some d
noncomputable def rG (b:(List Alert)) (c:(List Post)) (d:(List Receipt)):Option (Int) :=
  (iM b c).bind λa=>bif (a != 0)then some a else (jh d).bind λe=>some e
def ow (e:Int) (h:Nat) (c:Receipt) (d:(List (Pair×Int))):Option (Ctl ((List (Pair×Int))) (Unit)) :=
  (bif (decide (c.At<=e))then bif (!((mGet (λ(a b:Pair)=>(eqS a.f_player b.f_player&&(eqS a.f_alert b.f_alert&&true))) d (⟨c.Player,c.Alert⟩:Pair)).isSome))then some true else some (decide (c.At<((mGet (λ(a b:Pair)=>(eqS a.f_player b.f_player&&(eqS a.f_alert b.f_alert&&true))) d (⟨c.Player,c.Alert⟩:Pair)).getD 0)))else some false).bind λf=>(bif f then some (zY (λ(a b:Pair)=>(eqS a.f_player b.f_player&&(eqS a.f_alert b.f_alert&&true))) d (⟨c.Player,c.Alert⟩:Pair) c.At)else some d).bind λg=>some (.go g)
def tH (c:(List Receipt)) (a:Int):Option ((List (Pair×Int))) :=
  (forL c ([]:List (Pair×Int)) (λk x s=>ow a k x s)).bind λb=>thenC b (λd=>some d) (λ_=>none)
def mY (a:Alert) (c:ByteArray) (b:Alert):Option (Bool) :=
  (bif (sEq a.Id c)then bif (sEq a.Sender b.Sender)then (ja a b).bind λd=>some (decide (d<0))else some false else some false).bind λe=>some e
def dU (a:Alert->Option Bool) (b:Nat) (d:Alert) (e:Unit):Option (Ctl (Unit) (Int)) :=
  (a d).bind λc=>bif c then some (.ret (b:Int))else some (.go ())
def eP (c:(List Alert)) (a:Alert->Option Bool):Option (Int) :=
  (forL c () (λk x s=>dU a k x s)).bind λb=>thenC b (λd=>some (-1)) (λr=>some r)
def rY (b:(List Alert)) (a:Alert) (d:ByteArray):Option (Int) :=
  (eP b (λx0=>mY x0 d a)).bind λc=>some c
def qd (d:Nat) (c:Alert) (b:(List Int)):Option (Ctl ((List Int)) (Unit)) :=
  (mK b ([c.Until]:List Int)).bind λa=>some (.go a)
def nH (e:(List Alert)) (c:Alert) (i:Nat) (g:ByteArray) (b:(List Int)):Option (Ctl ((List Int)) (Unit)) :=
  (rY e c g).bind λa=>(bif (decide (a>=0))then (inR a b).bind λ_=>(b[(0+(a).toNat)]?).bind λd=>(inR a b).bind λ_=>(b[(0+(a).toNat)]?).bind λh=>some (b.set (0+(a).toNat) (Al d c.At))else some b).bind λf=>some (.go f)
def qh (b:(List Alert)) (f:Nat) (a:Alert) (d:(List Int)):Option (Ctl ((List Int)) (Unit)) :=
  (forL a.Refs d (λk x s=>nH b a k x s)).bind λc=>thenC c (λe=>some (.go e)) (λ_=>none)
def su (a:(List Alert)):Option ((List Int)) :=
  (forL a ([]:List Int) (λk x s=>qd k x s)).bind λb=>thenC b (λe=>(forL a e (λk x s=>qh a k x s)).bind λc=>thenC c (λd=>some d) (λ_=>none)) (λ_=>none)
def nA (a:Rect) (b:Post):Option (Bool) :=
  (bif (decide (a.X<=b.X))then bif (decide (b.X<(w64 (a.X+a.W))))then bif (decide (a.Y<=b.Y))then some (decide (b.Y<(w64 (a.Y+a.H))))else some false else some false else some false).bind λc=>some c
def bN (a:Rect->Option Bool) (b:Nat) (d:Rect) (e:Unit):Option (Ctl (Unit) (Int)) :=
  (a d).bind λc=>bif c then some (.ret (b:Int))else some (.go ())
def fD (c:(List Rect)) (a:Rect->Option Bool):Option (Int) :=
  (forL c () (λk x s=>bN a k x s)).bind λb=>thenC b (λd=>some (-1)) (λr=>some r)
def dz (c:(List Rect)) (a:Rect->Option Bool):Option (Bool) :=
  (fD c a).bind λb=>some (decide (b>=0))
def kH (a:Alert) (b:Post):Option (Bool) :=
  (dz a.Areas (λx0=>nA x0 b)).bind λc=>some c
def rD (a:Alert) (c:Int) (d:Post) (b:Int):Option (Bool) :=
  (bif (a.Kind != 3)then bif (decide (a.At<=b))then bif (decide (a.At<c))then (kH a d).bind λe=>some e else some false else some false else some false).bind λf=>some f
def nI (a:Debt) (b:Debt):Option (Int) :=
  (strings_Compare a.Player b.Player).bind λc=>(strings_Compare a.Alert b.Alert).bind λd=>(jG ([c,d]:List Int)).bind λe=>some e
noncomputable def fM (x:(List Debt)):Option ((List Debt)) :=
  zW (λa b=>nI a b) x
def mq (j:(List Int)) (d:Post) (h:Int) (e:Int) (g:(List (Pair×Int))) (i:Nat) (c:Alert) (f:(List Debt)):Option (Ctl ((List Debt)) (Unit)) :=
  ((idx j (i:Int)).bind λp=>(rD c p d h).bind λm=>bif (!m)then some true else bif (decide ((w64 (c.At+e))>=h))then some true else (idx j (i:Int)).bind λq=>some (decide (q<(w64 (c.At+e))))).bind λn=>bif n then some (.go f)else (bif (!((mGet (λ(a b:Pair)=>(eqS a.f_player b.f_player&&(eqS a.f_alert b.f_alert&&true))) g (⟨d.Player,c.Id⟩:Pair)).isSome))then (mK f ([(⟨d.Player,c.Id,(w64 (c.At+e)),(-1)⟩:Debt)]:List Debt)).bind λk=>some k else bif (decide (((mGet (λ(a b:Pair)=>(eqS a.f_player b.f_player&&(eqS a.f_alert b.f_alert&&true))) g (⟨d.Player,c.Id⟩:Pair)).getD 0)>(w64 (c.At+e))))then (mK f ([(⟨d.Player,c.Id,(w64 (c.At+e)),((mGet (λ(a b:Pair)=>(eqS a.f_player b.f_player&&(eqS a.f_alert b.f_alert&&true))) g (⟨d.Player,c.Id⟩:Pair)).getD 0)⟩:Debt)]:List Debt)).bind λl=>some l else some f).bind λo=>some (.go o)
def qX (c:(List Alert)) (f:(List Int)) (a:Int) (b:Int) (e:(List (Pair×Int))) (j:Nat) (i:Post) (g:(List Debt)):Option (Ctl ((List Debt)) (Unit)) :=
  (forL c g (λk x s=>mq f i a b e k x s)).bind λd=>thenC d (λh=>some (.go h)) (λ_=>none)
noncomputable def uf (b:(List Alert)) (d:(List Post)) (e:(List Receipt)) (c:Int) (a:Int):Option ((List Debt)×Int) :=
  (rG b d e).bind λf=>bif (f != 0)then some (([]:(List Debt)),f)else ((aY c 0 2592000000).bind λj=>bif j then some true else (bX a).bind λl=>some (!l)).bind λo=>bif o then some (([]:(List Debt)),1)else (tH e a).bind λm=>(su b).bind λn=>(forL d ([]:List Debt) (λk x s=>qX b n a c m k x s)).bind λi=>thenC i (λh=>(fM h).bind λg=>(iP g h).bind λ_=>some (g,0)) (λ_=>none)
def jo (a:Nat) (d:Nat) (b:(List Debt)):Option (Ctl ((List Debt)) (Unit)) :=
  (inR (a:Int) b).bind λ_=>(b[(0+((a:Int)).toNat)]?).bind λc=>some (.go (b.set (0+((a:Int)).toNat) (⟨(⟨#[]⟩:ByteArray),(⟨#[]⟩:ByteArray),0,0⟩:Debt)))
def kG (a:(List Debt)):Option ((List Debt)) :=
  (forL (List.range ((a.length:Int)).toNat) a (λk x s=>jo k x s)).bind λb=>thenC b (λc=>some c) (λ_=>none)
def nQ (a:Int):Option (Int) :=
  (bX a).bind λb=>bif (!b)then some 1 else some 0
def vw (a:Alert) (c:Int) (b:Int):Option (Bool) :=
  (bif (a.Kind != 3)then bif (decide (a.At<=b))then some (decide (b<c))else some false else some false).bind λd=>some d
def oV (a:Alert) (b:Alert):Option (Int) :=
  (cmp_Compare_int b.Weight a.Weight).bind λd=>(cmp_Compare_int b.At a.At).bind λe=>(strings_Compare a.Id b.Id).bind λf=>(jG ([d,e,f]:List Int)).bind λc=>some c
def fA (c:Int) (a:(List Alert)×Int):Option (Ctl ((List Alert)×Int) (Unit)) :=
  (bif (decide (a.2>c))then (inR a.2 a.1).bind λ_=>(a.1[(0+(a.2).toNat)]?).bind λd=>(inR (w64 (a.2-1)) a.1).bind λ_=>(a.1[(0+((w64 (a.2-1))).toNat)]?).bind λe=>(oV d e).bind λg=>some (decide (g<0))else some false).bind λh=>bif h then (inR (w64 (a.2-1)) a.1).bind λ_=>(a.1[(0+((w64 (a.2-1))).toNat)]?).bind λb=>(inR a.2 a.1).bind λ_=>(a.1[(0+(a.2).toNat)]?).bind λf=>(inR a.2 a.1).bind λ_=>(a.1[(0+(a.2).toNat)]?).bind λi=>(inR (w64 (a.2-1)) (a.1.set (0+(a.2).toNat) b)).bind λ_=>((a.1.set (0+(a.2).toNat) b)[(0+((w64 (a.2-1))).toNat)]?).bind λj=>some (.go (((a.1.set (0+(a.2).toNat) b).set (0+((w64 (a.2-1))).toNat) f),(w64 (a.2-1))))else some (.brk (a.1,a.2))
noncomputable def fo (c:Int) (b:Int) (a:(List Alert)×Int):Option (Ctl ((List Alert)×Int) (Unit)) :=
  bif (decide (a.2<c))then (jK (a.1,a.2) (λs=>fA b s)).bind λd=>thenC d (λe=>some (.go (e.1,(w64 (a.2+1))))) (λ_=>none)else some (.brk (a.1,a.2))
noncomputable def fT (c:(List Alert)) (a:Int) (b:Int):Option ((List Alert)) :=
  (jK (c,(w64 (a+1))) (λs=>fo b a s)).bind λd=>thenC d (λe=>some e.1) (λ_=>none)
noncomputable def ib (b:Int) (a:Int) (c:(List Alert)) (e:Int) (f:Unit):Option (Ctl (Unit) ((List Alert))) :=
  bif (decide ((w64 (b-a))<=12))then (fT c a b).bind λd=>(iP d c).bind λ_=>some (.ret d)else bif (e==0)then none else none
noncomputable def iQ (a:(List Alert)) (b:Int) (c:Int) (d:Int):Option ((List Alert)) :=
  (jK () (λs=>ib c b a d s)).bind λe=>thenC e (λf=>some a) (λr=>some r)
noncomputable def dw (a:(List Alert)):Option ((List Alert)) :=
  (iI (IntKind.u64.wrap (a.length:Int))).bind λc=>(iQ a 0 (a.length:Int) c).bind λb=>(iP b a).bind λ_=>some b
def ny (e:(List Int)) (d:Int) (g:Post) (f:Nat) (a:Alert) (b:(List Alert)):Option (Ctl ((List Alert)) (Unit)) :=
  ((idx e (f:Int)).bind λl=>(vw a l d).bind λh=>bif h then (kH a g).bind λi=>some i else some false).bind λj=>(bif j then (mK b ([a]:List Alert)).bind λc=>some c else some b).bind λk=>some (.go k)
noncomputable def rJ (e:(List Alert)) (d:(List Int)) (g:Post) (c:Int):Option ((List Alert)) :=
  (forL e ([]:List Alert) (λk x s=>ny d c g k x s)).bind λf=>thenC f (λb=>(dw b).bind λa=>(iP a b).bind λ_=>some a) (λ_=>none)
noncomputable def mD (f:(List Alert)) (g:(List Int)) (e:Int) (j:Nat) (c:Post) (b:(List Pair_)):Option (Ctl ((List Pair_)) (Unit)) :=
  (rJ f g c e).bind λa=>(bif (decide ((a.length:Int)>0))then (idx a 0).bind λi=>(mK b ([(⟨c.Player,i.Id⟩:Pair_)]:List Pair_)).bind λd=>some d else some b).bind λh=>some (.go h)
noncomputable def p9 (a:(List Alert)) (c:(List Post)) (b:Int):Option ((List Pair_)×Int) :=
  (iM a c).bind λd=>bif (d != 0)then some (([]:(List Pair_)),d)else (nQ b).bind λe=>bif (e != 0)then some (([]:(List Pair_)),e)else (su a).bind λg=>(forL c ([]:List Pair_) (λk x s=>mD a g b k x s)).bind λf=>thenC f (λh=>some (h,0)) (λ_=>none)
def jv (a:Nat) (d:Nat) (b:(List Pair_)):Option (Ctl ((List Pair_)) (Unit)) :=
  (inR (a:Int) b).bind λ_=>(b[(0+((a:Int)).toNat)]?).bind λc=>some (.go (b.set (0+((a:Int)).toNat) (⟨(⟨#[]⟩:ByteArray),(⟨#[]⟩:ByteArray)⟩:Pair_)))
def ku (a:(List Pair_)):Option ((List Pair_)) :=
  (forL (List.range ((a.length:Int)).toNat) a (λk x s=>jv k x s)).bind λb=>thenC b (λc=>some c) (λ_=>none)
def qR  : Option ((List ByteArray)) :=
  some ([(⟨#[]⟩:ByteArray),(⟨#[110,101,119]⟩:ByteArray),(⟨#[117,112,100,97,116,101]⟩:ByteArray),(⟨#[99,97,110,99,101,108]⟩:ByteArray)]:List ByteArray)
def strconv_Itoa (x0:Int):Option (ByteArray) :=
  PI x0
def strings_Join (x0:(List ByteArray)) (x1:ByteArray):Option (ByteArray) :=
  Pb x0 x1
def l7 (e:Nat) (d:Int) (c:(List ByteArray)):Option (Ctl ((List ByteArray)) (Unit)) :=
  (strconv_Itoa d).bind λb=>(mK c ([b]:List ByteArray)).bind λa=>some (.go a)
def oF (a:(List Int)):Option (ByteArray) :=
  (forL a ([]:List ByteArray) (λk x s=>l7 k x s)).bind λb=>thenC b (λd=>(strings_Join d (⟨#[32]⟩:ByteArray)).bind λc=>some c) (λ_=>none)
def jV (f:Nat) (e:ByteArray) (a:ByteArray):Option (Ctl (ByteArray) (Unit)) :=
  (pJ (⟨#[114,101,102,32]⟩:ByteArray) e).bind λb=>(pJ b (⟨#[10]⟩:ByteArray)).bind λc=>(pJ a c).bind λd=>some (.go d)
def jW (g:Nat) (a:Rect) (c:ByteArray):Option (Ctl (ByteArray) (Unit)) :=
  (oF ([a.X,a.Y,a.W,a.H]:List Int)).bind λb=>(pJ (⟨#[97,114,101,97,32]⟩:ByteArray) b).bind λd=>(pJ d (⟨#[10]⟩:ByteArray)).bind λe=>(pJ c e).bind λf=>some (.go f)
def lH (z:Nat) (a:Alert) (r:ByteArray):Option (Ctl (ByteArray) (Unit)) :=
  (pJ (⟨#[97,108,101,114,116,32]⟩:ByteArray) a.Id).bind λg=>(pJ g (⟨#[32]⟩:ByteArray)).bind λh=>(pJ h a.Sender).bind λi=>(pJ i (⟨#[32]⟩:ByteArray)).bind λj=>(qR).bind λe=>(idx e a.Kind).bind λy=>(pJ j y).bind λl=>(pJ l (⟨#[32]⟩:ByteArray)).bind λm=>(oF ([a.At,a.Until,a.Weight]:List Int)).bind λf=>(pJ m f).bind λn=>(pJ n (⟨#[10]⟩:ByteArray)).bind λo=>(pJ r o).bind λp=>(forL a.Refs p (λk x s=>jV k x s)).bind λc=>thenC c (λq=>(forL a.Areas q (λk x s=>jW k x s)).bind λd=>thenC d (λb=>(bif (sNe a.Text (⟨#[]⟩:ByteArray))then (pJ (⟨#[116,101,120,116,32]⟩:ByteArray) a.Text).bind λt=>(pJ t (⟨#[10]⟩:ByteArray)).bind λu=>(pJ b u).bind λv=>some v else some b).bind λw=>some (.go w)) (λ_=>none)) (λ_=>none)
def l5 (a:(List Alert)):Option (ByteArray) :=
  (forL a (⟨#[]⟩:ByteArray) (λk x s=>lH k x s)).bind λb=>thenC b (λc=>some c) (λ_=>none)
def pX (a:Alert) (b:Alert):Option (Bool) :=
  (l5 ([a]:List Alert)).bind λc=>(l5 ([b]:List Alert)).bind λd=>some (sEq c d)
def bg (s2_2:(List Alert)) (a:Nat) (c:Alert) (e:Unit):Option (Ctl (Unit) (Bool)) :=
  (idx s2_2 (a:Int)).bind λd=>(pX c d).bind λb=>bif (!b)then some (.ret false)else some (.go ())
def bL (s1_1:(List Alert)) (s2_2:(List Alert)):Option (Bool) :=
  bif ((s1_1.length:Int) != (s2_2.length:Int))then some false else (forL s1_1 () (λk x s=>bg s2_2 k x s)).bind λa=>thenC a (λb=>some true) (λr=>some r)
def dQ (s2_2:(List Post)) (c:Nat) (a:Post) (d:Unit):Option (Ctl (Unit) (Bool)) :=
  (idx s2_2 (c:Int)).bind λb=>bif (!((a.Player.toList==b.Player.toList)&&((a.X==b.X)&&((a.Y==b.Y)&&true))))then some (.ret false)else some (.go ())
def gY (s1_1:(List Post)) (s2_2:(List Post)):Option (Bool) :=
  bif ((s1_1.length:Int) != (s2_2.length:Int))then some false else (forL s1_1 () (λk x s=>dQ s2_2 k x s)).bind λa=>thenC a (λb=>some true) (λr=>some r)
def cO (s2_2:(List Receipt)) (c:Nat) (a:Receipt) (d:Unit):Option (Ctl (Unit) (Bool)) :=
  (idx s2_2 (c:Int)).bind λb=>bif (!((a.Player.toList==b.Player.toList)&&((a.Alert.toList==b.Alert.toList)&&((a.At==b.At)&&((a.Seen==b.Seen)&&true)))))then some (.ret false)else some (.go ())
def eH (s1_1:(List Receipt)) (s2_2:(List Receipt)):Option (Bool) :=
  bif ((s1_1.length:Int) != (s2_2.length:Int))then some false else (forL s1_1 () (λk x s=>cO s2_2 k x s)).bind λa=>thenC a (λb=>some true) (λr=>some r)
def oH (c:Nat) (b:Rect) (d:Unit):Option (Ctl (Unit) (Int)) :=
  (jI b).bind λa=>bif (a != 0)then some (.ret a)else some (.go ())
def nR (a:(List Rect)):Option (Int) :=
  bif (decide ((a.length:Int)>2000))then some 2 else (forL a () (λk x s=>oH k x s)).bind λb=>thenC b (λc=>some 0) (λr=>some r)
def jk (a:Int):Option Bool :=
  bif (decide (a<0))then none else bif (decide ((w64 (a-(w64 (0-0))))>0))then (zN (w64 (a-(w64 (0-0)))) 32).bind λ_=>some true else some false
def iW (c:Nat) (b:(List Rect)) (a:Int):Option (Ctl (Int) (Unit)) :=
  (bif (decide ((w64 (a+(b.length:Int)))<0))then none else some ()).bind λd=>some (.go (w64 (a+(b.length:Int))))
def iU (d:Nat) (c:(List Rect)) (b:(List Rect)):Option (Ctl ((List Rect)) (Unit)) :=
  (mK b c).bind λa=>some (.go a)
def gD (a:(List (List Rect))):Option ((List Rect)) :=
  (forL a 0 (λk x s=>iW k x s)).bind λb=>thenC b (λe=>(jk e).bind λf=>(forL a ([]:List Rect) (λk x s=>iU k x s)).bind λc=>thenC c (λd=>some d) (λ_=>none)) (λ_=>none)
def kv (x:(List Int)):Option ((List Int)) :=
  Ps x
def iK (c:(List Int)) (b:Int) (a:(List Int)×Int×Int):Option (Ctl ((List Int)×Int×Int) (Unit)) :=
  bif (decide (a.2.2<(((((c.length:Int)).toNat-(b).toNat):Nat):Int)))then (inN a.2.2 (((c.length:Int)).toNat-(b).toNat)).bind λ_=>(a.1[(((b).toNat)+(a.2.2).toNat)]?).bind λe=>(inN (w64 (a.2.2-1)) (((c.length:Int)).toNat-(b).toNat)).bind λ_=>(a.1[(((b).toNat)+((w64 (a.2.2-1))).toNat)]?).bind λf=>(bif (e != f)then (inN a.2.2 (((c.length:Int)).toNat-(b).toNat)).bind λ_=>(a.1[(((b).toNat)+(a.2.2).toNat)]?).bind λg=>(inR a.2.1 a.1).bind λ_=>(a.1[(0+(a.2.1).toNat)]?).bind λh=>some ((a.1.set (0+(a.2.1).toNat) g),(w64 (a.2.1+1)))else some (a.1,a.2.1)).bind λd=>some (.go (d.1,d.2,(w64 (a.2.2+1))))else some (.brk (a.1,a.2.1,a.2.2))
noncomputable def fK (b:(List Int)) (c:Int):Option (Ctl (Int) ((List Int))) :=
  bif (decide (c<(b.length:Int)))then (inR c b).bind λ_=>(b[(0+(c).toNat)]?).bind λd=>(inR (w64 (c-1)) b).bind λ_=>(b[(0+((w64 (c-1))).toNat)]?).bind λe=>bif (d==e)then (neL b).bind λ_=>(xm b c (b.length:Int)).bind λ_=>(jK (b,c,1) (λs=>iK b c s)).bind λf=>thenC f (λa=>(xm a.1 a.2.1 (a.1.length:Int)).bind λ_=>(xm (a.1.take ((a.2.1).toNat)++List.replicate (((a.1.length:Int)).toNat-(a.2.1).toNat) 0++a.1.drop (((a.2.1).toNat)+(((a.1.length:Int)).toNat-(a.2.1).toNat))) 0 a.2.1).bind λ_=>some (.ret (IW (a.1.take ((a.2.1).toNat)++List.replicate (((a.1.length:Int)).toNat-(a.2.1).toNat) 0++a.1.drop (((a.2.1).toNat)+(((a.1.length:Int)).toNat-(a.2.1).toNat))) 0 ((a.2.1).toNat)))) (λ_=>none)else some (.go (w64 (c+1)))else some (.brk c)
noncomputable def ig (a:(List Int)):Option ((List Int)) :=
  bif (decide ((a.length:Int)<2))then some a else (jK 1 (λs=>fK a s)).bind λb=>thenC b (λc=>some a) (λr=>some r)
def xq (a:Run) (b:Run):Option (Int) :=
  some (w64 (a.f_from-b.f_from))
def dB (c:Int) (a:(List Run)×Int):Option (Ctl ((List Run)×Int) (Unit)) :=
  (bif (decide (a.2>c))then (inR a.2 a.1).bind λ_=>(a.1[(0+(a.2).toNat)]?).bind λd=>(inR (w64 (a.2-1)) a.1).bind λ_=>(a.1[(0+((w64 (a.2-1))).toNat)]?).bind λe=>(xq d e).bind λg=>some (decide (g<0))else some false).bind λh=>bif h then (inR (w64 (a.2-1)) a.1).bind λ_=>(a.1[(0+((w64 (a.2-1))).toNat)]?).bind λb=>(inR a.2 a.1).bind λ_=>(a.1[(0+(a.2).toNat)]?).bind λf=>(inR a.2 a.1).bind λ_=>(a.1[(0+(a.2).toNat)]?).bind λi=>(inR (w64 (a.2-1)) (a.1.set (0+(a.2).toNat) b)).bind λ_=>((a.1.set (0+(a.2).toNat) b)[(0+((w64 (a.2-1))).toNat)]?).bind λj=>some (.go (((a.1.set (0+(a.2).toNat) b).set (0+((w64 (a.2-1))).toNat) f),(w64 (a.2-1))))else some (.brk (a.1,a.2))
noncomputable def bR (c:Int) (b:Int) (a:(List Run)×Int):Option (Ctl ((List Run)×Int) (Unit)) :=
  bif (decide (a.2<c))then (jK (a.1,a.2) (λs=>dB b s)).bind λd=>thenC d (λe=>some (.go (e.1,(w64 (a.2+1))))) (λ_=>none)else some (.brk (a.1,a.2))
noncomputable def bU (c:(List Run)) (a:Int) (b:Int):Option ((List Run)) :=
  (jK (c,(w64 (a+1))) (λs=>bR b a s)).bind λd=>thenC d (λe=>some e.1) (λ_=>none)
noncomputable def di (b:Int) (a:Int) (c:(List Run)) (e:Int) (f:Unit):Option (Ctl (Unit) ((List Run))) :=
  bif (decide ((w64 (b-a))<=12))then (bU c a b).bind λd=>(iP d c).bind λ_=>some (.ret d)else bif (e==0)then none else none
noncomputable def dH (a:(List Run)) (b:Int) (c:Int) (d:Int):Option ((List Run)) :=
  (jK () (λs=>di c b a d s)).bind λe=>thenC e (λf=>some a) (λr=>some r)
noncomputable def cz (a:(List Run)):Option ((List Run)) :=
  (iI (IntKind.u64.wrap (a.length:Int))).bind λc=>(dH a 0 (a.length:Int) c).bind λb=>(iP b a).bind λ_=>some b
def qU (c:Int) (g:Nat) (a:Rect) (b:(List Run)):Option (Ctl ((List Run)) (Unit)) :=
  (bif (decide (a.Y<=c))then some (decide (c<(w64 (a.Y+a.H))))else some false).bind λe=>(bif e then (mK b ([(⟨a.X,(w64 (a.X+a.W))⟩:Run)]:List Run)).bind λd=>some d else some b).bind λf=>some (.go f)
def rC (i:Nat) (b:Run) (a:(List Run)):Option (Ctl ((List Run)) (Unit)) :=
  (bif (decide ((w64 ((a.length:Int)-1))>=0))then (inR (w64 ((a.length:Int)-1)) a).bind λ_=>(a[(0+((w64 ((a.length:Int)-1))).toNat)]?).bind λd=>some (decide (b.f_from<=d.f_to))else some false).bind λg=>(bif g then (inR (w64 ((a.length:Int)-1)) a).bind λ_=>(a[(0+((w64 ((a.length:Int)-1))).toNat)]?).bind λe=>(inR (w64 ((a.length:Int)-1)) a).bind λ_=>(a[(0+((w64 ((a.length:Int)-1))).toNat)]?).bind λf=>some (a.set (0+((w64 ((a.length:Int)-1))).toNat) (⟨f.f_from,(xH e.f_to b.f_to)⟩:Run))else (mK a ([b]:List Run)).bind λc=>some c).bind λh=>some (.go h)
noncomputable def qG (c:(List Rect)) (g:Int):Option ((List Run)) :=
  (forL c ([]:List Run) (λk x s=>qU g k x s)).bind λd=>thenC d (λb=>(cz b).bind λa=>(iP a b).bind λ_=>(forL a ([]:List Run) (λk x s=>rC k x s)).bind λe=>thenC e (λf=>some f) (λ_=>none)) (λ_=>none)
def rA (b:(List Run)) (d:Run) (a:Int):Option (Ctl (Int) (Unit)) :=
  (bif (decide (a<(b.length:Int)))then (idx b a).bind λe=>some (decide (e.f_to<=d.f_from))else some false).bind λc=>bif c then some (.go (w64 (a+1)))else some (.brk a)
def qV (b:(List Run)) (f:Run) (a:(List Run)×Int×Int):Option (Ctl ((List Run)×Int×Int) (Unit)) :=
  (bif (decide (a.2.1<(b.length:Int)))then (idx b a.2.1).bind λg=>some (decide (g.f_from<f.f_to))else some false).bind λd=>bif d then (idx b a.2.1).bind λh=>(bif (decide (h.f_from>a.2.2))then (idx b a.2.1).bind λi=>(mK a.1 ([(⟨a.2.2,i.f_from⟩:Run)]:List Run)).bind λc=>some c else some a.1).bind λe=>(idx b a.2.1).bind λj=>some (.go (e,(w64 (a.2.1+1)),(xH a.2.2 j.f_to)))else some (.brk (a.1,a.2.1,a.2.2))
noncomputable def oK (c:(List Run)) (j:Nat) (a:Run) (e:(List Run)×Int):Option (Ctl ((List Run)×Int) (Unit)) :=
  (jK e.2 (λs=>rA c a s)).bind λg=>thenC g (λd=>(jK (e.1,d,a.f_from) (λs=>qV c a s)).bind λh=>thenC h (λb=>(bif (decide (b.2.2<a.f_to))then (mK b.1 ([(⟨b.2.2,a.f_to⟩:Run)]:List Run)).bind λf=>some f else some b.1).bind λi=>some (.go (i,d))) (λ_=>none)) (λ_=>none)
noncomputable def tC (a:(List Run)) (b:(List Run)):Option ((List Run)) :=
  (forL a (([]:List Run),0) (λk x s=>oK b k x s)).bind λc=>thenC c (λd=>some d.1) (λ_=>none)
def gQ (s2_2:(List Run)) (c:Nat) (a:Run) (d:Unit):Option (Ctl (Unit) (Bool)) :=
  (idx s2_2 (c:Int)).bind λb=>bif (!((a.f_from==b.f_from)&&((a.f_to==b.f_to)&&true)))then some (.ret false)else some (.go ())
def fF (s1_1:(List Run)) (s2_2:(List Run)):Option (Bool) :=
  bif ((s1_1.length:Int) != (s2_2.length:Int))then some false else (forL s1_1 () (λk x s=>gQ s2_2 k x s)).bind λa=>thenC a (λb=>some true) (λr=>some r)
def oZ (d:Nat) (a:Rect) (c:(List Int)):Option (Ctl ((List Int)) (Unit)) :=
  (mK c ([a.Y,(w64 (a.Y+a.H))]:List Int)).bind λb=>some (.go b)
def o8 (b:(List Rect)×(List Run)×Int) (e:Int) (f:Nat) (a:Run) (d:(List Rect)):Option (Ctl ((List Rect)) (Unit)) :=
  (mK d ([(⟨a.f_from,b.2.2,(w64 (a.f_to-a.f_from)),(w64 (e-b.2.2))⟩:Rect)]:List Rect)).bind λc=>some (.go c)
noncomputable def mf (h:(List Int)) (e:(List Rect)) (f:(List Rect)) (d:Nat) (b:Int) (a:(List Rect)×(List Run)×Int):Option (Ctl ((List Rect)×(List Run)×Int) (Unit)) :=
  (bif (decide ((w64 ((d:Int)+1))<(h.length:Int)))then (qG e b).bind λi=>(qG f b).bind λj=>(tC i j).bind λl=>some l else some ([]:List Run)).bind λc=>(fF a.2.1 c).bind λm=>bif m then some (.go (a.1,a.2.1,a.2.2))else (forL a.2.1 a.1 (λk x s=>o8 a b k x s)).bind λg=>thenC g (λn=>some (.go (n,c,b))) (λ_=>none)
noncomputable def qa (a:(List Rect)) (b:(List Rect)):Option ((List Rect)) :=
  (gD ([a,b]:List (List Rect))).bind λh=>(forL h ([]:List Int) (λk x s=>oZ k x s)).bind λf=>thenC f (λe=>(kv e).bind λc=>(iP c e).bind λ_=>(ig c).bind λd=>(forL d (([]:List Rect),([]:List Run),0) (λk x s=>mf d a b k x s)).bind λg=>thenC g (λi=>some i.1) (λ_=>none)) (λ_=>none)
def vE (c:Nat) (a:Rect) (b:Int):Option (Ctl (Int) (Unit)) :=
  some (.go (w64 (b+(w64 (a.W*a.H)))))
def wX (a:(List Rect)):Option (Int) :=
  (forL a 0 (λk x s=>vE k x s)).bind λb=>thenC b (λc=>some c) (λ_=>none)
noncomputable def tT (a:(List Rect)):Option (Int×Int) :=
  (nR a).bind λb=>bif (b != 0)then some (0,b)else (qa a ([]:List Rect)).bind λc=>(wX c).bind λd=>some (d,0)
def DI (a:Int):Option (Bool) :=
  (bif (decide (a>=0))then some (decide (a<=4000))else some false).bind λb=>some b
def l8 (c:(List Int)) (a:Nat) (b:Int) (g:Unit):Option (Ctl (Unit) (Int)) :=
  (DI b).bind λd=>bif (!d)then some (.ret 1)else (bif (decide ((a:Int)>0))then (idx c (w64 ((a:Int)-1))).bind λf=>some (decide (b<=f))else some false).bind λe=>bif e then some (.ret 7)else some (.go ())
def lL (a:(List Int)):Option (Int) :=
  bif (decide ((a.length:Int)>100))then some 2 else (forL a () (λk x s=>l8 a k x s)).bind λb=>thenC b (λc=>some 0) (λr=>some r)
noncomputable def kP (c:(List ByteArray)) (a:Nat) (b:ByteArray) (g:Unit):Option (Ctl (Unit) (Int)) :=
  (kit_IsKey b).bind λd=>bif (!d)then some (.ret 5)else (bif (decide ((a:Int)>0))then (idx c (w64 ((a:Int)-1))).bind λf=>some (sLe b f)else some false).bind λe=>bif e then some (.ret 7)else some (.go ())
noncomputable def lq (a:(List ByteArray)):Option (Int) :=
  (forL a () (λk x s=>kP a k x s)).bind λb=>thenC b (λc=>some 0) (λr=>some r)
noncomputable def kQ (a:(List ByteArray)):Option (Int) :=
  bif (decide ((a.length:Int)>20))then some 2 else (lq a).bind λb=>some b
noncomputable def kr (a:Entry):Option (Int) :=
  ((kit_IsKey a.Key).bind λk=>bif (!k)then some true else (kit_IsKey a.Item).bind λl=>some (!l)).bind λo=>bif o then some 5 else ((aY a.Version 0 1000000).bind λc=>bif c then some true else (aY a.First 0 a.Last).bind λd=>bif d then some true else bif (decide (a.Last>4000))then some true else (aY a.Every 1 400).bind λe=>bif e then some true else (aY a.Days 1 127).bind λf=>some f).bind λm=>bif m then some 1 else (lL a.Except).bind λb=>bif (b != 0)then some b else ((aY a.From 0 1439).bind λg=>bif g then some true else (aY a.To 0 1439).bind λh=>bif h then some true else (aY a.Prio 0 9).bind λi=>some i).bind λn=>bif n then some 1 else (kQ a.Tags).bind λj=>some j
noncomputable def iH (d:(List Entry)) (a:Nat) (c:Entry) (g:Unit):Option (Ctl (Unit) (Int)) :=
  (kr c).bind λb=>bif (b != 0)then some (.ret b)else (bif (decide ((a:Int)>0))then (idx d (w64 ((a:Int)-1))).bind λf=>some (sLe c.Key f.Key)else some false).bind λe=>bif e then some (.ret 7)else some (.go ())
noncomputable def jy (a:(List Entry)):Option (Int) :=
  bif (decide ((a.length:Int)>200))then some 2 else (forL a () (λk x s=>iH a k x s)).bind λb=>thenC b (λc=>some 0) (λr=>some r)
def lu (a:Window):Option (Int) :=
  ((aY a.From 0 a.To).bind λb=>bif b then some true else some (decide (a.To>345686400000))).bind λc=>bif c then some 1 else bif (decide ((w64 (a.To-a.From))>34560000000))then some 2 else some 0
def cmp_Less_int (a:Int) (b:Int):Option (Bool) :=
  ((cmp_isNaN_int a).bind λc=>bif c then (cmp_isNaN_int b).bind λd=>bif (!d)then some true else some (decide (a<b))else some (decide (a<b))).bind λe=>some e
def kI (a:Int):Option (Bool) :=
  some (a != a)
def gZ (e:(List Int)) (d:Int) (a:Int×Int):Option (Ctl (Int×Int) (Unit)) :=
  bif (decide (a.1<a.2))then (P9 .u64 (IntKind.u64.wrap (w64 (a.1+a.2))) 1).bind λb=>(idx e (w64 b)).bind λf=>(cmp_Less_int f d).bind λc=>bif c then some (.go ((w64 ((w64 b)+1)),a.2))else some (.go (a.1,(w64 b)))else some (.brk (a.1,a.2))
noncomputable def gm (a:(List Int)) (c:Int):Option (Int×Bool) :=
  (jK (0,(a.length:Int)) (λs=>gZ a c s)).bind λd=>thenC d (λb=>(bif (decide (b.1<(a.length:Int)))then (idx a b.1).bind λh=>bif (h==c)then some true else (idx a b.1).bind λi=>(kI i).bind λe=>bif e then (kI c).bind λf=>some f else some false else some false).bind λg=>some (b.1,g)) (λ_=>none)
noncomputable def oM (a:Entry) (b:Int):Option (Bool) :=
  ((aY b a.First a.Last).bind λf=>bif f then some true else (MP .i64 (w64 (b-a.First)) a.Every).bind λd=>bif (d != 0)then some true else (shlO .i64 1 (b.tmod 7)).bind λc=>some ((Rp .i64 a.Days c)==0)).bind λg=>bif g then some false else (gm a.Except b).bind λe=>some (!e.2)
def qj (a:Entry) (c:Int) (b:Int):Option (Window) :=
  (bif (decide ((w64 (a.To-a.From))<=0))then some (w64 ((w64 (a.To-a.From))+1440))else some (w64 (a.To-a.From))).bind λd=>some (⟨(w64 ((w64 ((w64 ((w64 (b*1440))+a.From))-c))*60000)),(w64 ((w64 ((w64 ((w64 ((w64 (b*1440))+a.From))-c))*60000))+(w64 (d*60000))))⟩:Window)
noncomputable def lw (d:Window) (e:Int) (b:Entry) (a:(List Window)×Int):Option (Ctl ((List Window)×Int) (Unit)) :=
  bif (decide (a.2<=(Al (w64 ((w64 ((w64 (d.To+(w64 (e*60000)))).tdiv 86400000))+1)) b.Last)))then (oM b a.2).bind λg=>bif (!g)then some (.go (a.1,(w64 (a.2+1))))else (qj b e a.2).bind λc=>(bif (decide (c.From<d.To))then some (decide (c.To>d.From))else some false).bind λh=>(bif h then (mK a.1 ([c]:List Window)).bind λf=>some f else some a.1).bind λi=>some (.go (i,(w64 (a.2+1))))else some (.brk (a.1,a.2))
noncomputable def oL (b:Entry) (c:Int) (a:Window):Option ((List Window)) :=
  (bif b.Gone then some true else some (decide (a.From>=a.To))).bind λf=>bif f then some ([]:(List Window))else (jK (([]:List Window),(xH (w64 ((w64 ((w64 (a.From+(w64 (c*60000)))).tdiv 86400000))-2)) b.First)) (λs=>lw a c b s)).bind λd=>thenC d (λe=>some e.1) (λ_=>none)
def yw (a:Window) (b:Window):Option (Window) :=
  some (⟨(xH a.From b.From),(Al a.To b.To)⟩:Window)
def nU (e:Window) (a:Nat) (g:Nat) (b:(List Window)):Option (Ctl ((List Window)) (Unit)) :=
  (inR (a:Int) b).bind λ_=>(b[(0+((a:Int)).toNat)]?).bind λc=>(yw c e).bind λd=>(inR (a:Int) b).bind λ_=>(b[(0+((a:Int)).toNat)]?).bind λf=>some (.go (b.set (0+((a:Int)).toNat) d))
noncomputable def oO (b:Entry) (f:Int) (a:Window):Option ((List Window)×Int) :=
  (jy ([b]:List Entry)).bind λe=>bif (e != 0)then some (([]:(List Window)),e)else (aY f (-1440) 1440).bind λh=>bif h then some (([]:(List Window)),1)else (lu a).bind λc=>bif (c != 0)then some (([]:(List Window)),c)else (oL b f a).bind λd=>(forL (List.range ((d.length:Int)).toNat) d (λk x s=>nU a k x s)).bind λg=>thenC g (λi=>some (i,0)) (λ_=>none)
def rq (a:Window):Option (Bool) :=
  (bif (decide (a.From>=0))then bif (decide (a.From<a.To))then some (decide (a.To<=345686400000))else some false else some false).bind λb=>some b
noncomputable def lK (a:(List ByteArray)):Option (Int) :=
  bif (decide ((a.length:Int)>20))then some 2 else (lq a).bind λb=>some b
noncomputable def ik (d:(List Campaign)) (b:Nat) (a:Campaign) (o:Unit):Option (Ctl (Unit) (Int)) :=
  ((kit_IsKey a.Key).bind λe=>bif (!e)then some true else bif (sNe a.Class (⟨#[]⟩:ByteArray))then (kit_IsKey a.Class).bind λf=>some (!f)else some false).bind λk=>bif k then some (.ret 5)else (bif (decide ((b:Int)>0))then (idx d (w64 ((b:Int)-1))).bind λn=>some (sLe a.Key n.Key)else some false).bind λl=>bif l then some (.ret 7)else ((rq a.Time).bind λg=>bif (!g)then some true else (aY a.Goal 0 1000000).bind λh=>bif h then some true else (aY a.Most 0 1000000).bind λi=>bif i then some true else (aY a.Cents 0 1000000000).bind λj=>some j).bind λm=>bif m then some (.ret 1)else (lK a.Tags).bind λc=>bif (c != 0)then some (.ret c)else some (.go ())
noncomputable def jg (a:(List Campaign)):Option (Int) :=
  bif (decide ((a.length:Int)>30))then some 2 else (forL a () (λk x s=>ik a k x s)).bind λb=>thenC b (λc=>some 0) (λr=>some r)
def wQ (a:Campaign) (b:Int):Option (Int) :=
  bif (decide (b<a.Time.From))then some 0 else bif (decide (b>=a.Time.To))then some a.Goal else (N9 .i64 (w64 (a.Goal*(w64 (b-a.Time.From)))) (w64 (a.Time.To-a.Time.From))).bind λc=>some c
noncomputable def tK (b:Campaign) (a:Int):Option (Int×Int) :=
  (jg ([b]:List Campaign)).bind λc=>bif (c != 0)then some (0,c)else (bX a).bind λe=>bif (!e)then some (0,1)else (wQ b a).bind λd=>some (d,0)
def mR (a:Beat) (b:Beat):Option (Int) :=
  (strings_Compare a.Player b.Player).bind λc=>(cmp_Compare_int a.At b.At).bind λd=>(jG ([c,d]:List Int)).bind λe=>some e
noncomputable def kg (c:(List Beat)) (b:Nat) (a:Beat) (n:Unit):Option (Ctl (Unit) (Int)) :=
  (kit_IsKey a.Player).bind λd=>bif (!d)then some (.ret 5)else ((bX a.At).bind λe=>bif (!e)then some true else (aY a.Clock 0 345686399999).bind λf=>some f).bind λh=>bif h then some (.ret 1)else (bif (decide ((b:Int)>0))then (idx c (w64 ((b:Int)-1))).bind λk=>(mR k a).bind λg=>some (decide (g>=0))else some false).bind λi=>bif i then some (.ret 7)else (bif (decide ((b:Int)>0))then (idx c (w64 ((b:Int)-1))).bind λl=>bif (sEq a.Player l.Player)then (idx c (w64 ((b:Int)-1))).bind λm=>some (decide (a.Clock<=m.Clock))else some false else some false).bind λj=>bif j then some (.ret 16)else some (.go ())
noncomputable def mo (a:(List Beat)):Option (Int) :=
  bif (decide ((a.length:Int)>500))then some 2 else (forL a () (λk x s=>kg a k x s)).bind λb=>thenC b (λc=>some 0) (λr=>some r)
def sM (f:ByteArray) (e:Bool) (h:Nat) (a:Beat) (b:(List Beat_)):Option (Ctl ((List Beat_)) (Unit)) :=
  (bif (sNe a.Player f)then some b else bif e then (mK b ([(⟨a.At,a.Clock⟩:Beat_)]:List Beat_)).bind λc=>some c else (mK b ([(⟨a.Clock,a.At⟩:Beat_)]:List Beat_)).bind λd=>some d).bind λg=>some (.go g)
def sU (b:(List Beat)) (d:ByteArray) (a:Bool):Option ((List Beat_)) :=
  (forL b ([]:List Beat_) (λk x s=>sM d a k x s)).bind λc=>thenC c (λe=>some e) (λ_=>none)
def ql (b:(List Beat_)) (c:Int) (a:Int):Option (Ctl (Int) (Unit)) :=
  (bif (decide (a<(b.length:Int)))then (idx b a).bind λe=>some (decide (e.f_from<=c))else some false).bind λd=>bif d then some (.go (w64 (a+1)))else some (.brk a)
noncomputable def qW (a:(List Beat_)) (c:Int):Option (Int×Int) :=
  bif ((a.length:Int)==0)then some (0,8)else (jK 0 (λs=>ql a c s)).bind λk=>thenC k (λd=>bif (d==0)then (idx a 0).bind λg=>(idx a 0).bind λh=>(bX (w64 (g.f_to-(w64 (h.f_from-c))))).bind λl=>bif (!l)then some (0,11)else some ((w64 (g.f_to-(w64 (h.f_from-c)))),0)else bif (d==(a.length:Int))then (idx a (w64 (d-1))).bind λi=>(idx a (w64 (d-1))).bind λj=>(bX (w64 ((w64 (i.f_to+c))-j.f_from))).bind λm=>bif (!m)then some (0,11)else some ((w64 ((w64 (i.f_to+c))-j.f_from)),0)else (idx a (w64 (d-1))).bind λb=>(idx a d).bind λe=>(bif (decide ((w64 (e.f_from-b.f_from))>2592000000))then some true else some (decide ((w64 (e.f_to-b.f_to))>2592000000))).bind λo=>bif o then some (0,2)else (N9 .i64 (w64 ((w64 (c-b.f_from))*(w64 (e.f_to-b.f_to)))) (w64 (e.f_from-b.f_from))).bind λf=>(bX (w64 (b.f_to+f))).bind λn=>bif (!n)then some (0,11)else some ((w64 (b.f_to+f)),0)) (λ_=>none)
noncomputable def uh (a:(List Beat)) (c:ByteArray) (b:Int) (f:Bool):Option (Int×Int) :=
  (mo a).bind λe=>bif (e != 0)then some (0,e)else (kit_IsKey c).bind λi=>bif (!i)then some (0,5)else (bX b).bind λg=>bif (!g)then some (0,1)else (sU a c f).bind λh=>(qW h b).bind λd=>some (d.1,d.2)
noncomputable def tX (c:(List Beat)) (d:ByteArray) (b:Int):Option (Int×Int) :=
  (uh c d b false).bind λa=>some (a.1,a.2)
noncomputable def pY (a:Alert) (b:Post):Option (Bool×Int) :=
  (iM ([a]:List Alert) ([b]:List Post)).bind λc=>bif (c != 0)then some (false,c)else (kH a b).bind λd=>some (d,0)
def yJ (b:Nat) (a:Int) (c:Unit):Option (Ctl (Unit) (Int)) :=
  bif (a != 0)then some (.ret a)else some (.go ())
def AQ (a:(List Int)):Option (Int) :=
  (forL a () (λk x s=>yJ k x s)).bind λb=>thenC b (λc=>some 0) (λr=>some r)
noncomputable def sK  : Option (Bool) :=
  (tT ([(⟨0,0,2,2⟩:Rect),(⟨1,1,2,2⟩:Rect)]:List Rect)).bind λa=>(oO (⟨(⟨#[97]⟩:ByteArray),(⟨#[98]⟩:ByteArray),0,0,0,1,127,([]:List Int),1,2,0,([]:List ByteArray),false⟩:Entry) 0 (⟨0,86400000⟩:Window)).bind λc=>(tK (⟨(⟨#[97]⟩:ByteArray),(⟨#[]⟩:ByteArray),(⟨0,100⟩:Window),([]:List ByteArray),10,0,0⟩:Campaign) 50).bind λd=>(tX ([(⟨(⟨#[112]⟩:ByteArray),0,100⟩:Beat),(⟨(⟨#[112]⟩:ByteArray),1000,1300⟩:Beat)]:List Beat) (⟨#[112]⟩:ByteArray) 700).bind λe=>(pY (⟨(⟨#[97]⟩:ByteArray),(⟨#[115]⟩:ByteArray),1,([]:List ByteArray),0,5,1,([(⟨0,0,2,2⟩:Rect)]:List Rect),(⟨#[120]⟩:ByteArray)⟩:Alert) (⟨(⟨#[112]⟩:ByteArray),1,1⟩:Post)).bind λb=>((AQ ([a.2,c.2,d.2,e.2,b.2]:List Int)).bind λf=>bif (f==0)then bif (a.1==7)then bif ((c.1.length:Int)==1)then bif (d.1==5)then bif (e.1==500)then some b.1 else some false else some false else some false else some false else some false).bind λg=>some g
def jC (b:(List Alert)×Int) (a:Nat) (h:Nat) (g:Unit):Option (Ctl (Unit) (Unit)) :=
  (inR (a:Int) b.1).bind λ_=>(b.1[(0+((a:Int)).toNat)]?).bind λc=>(lD c.Refs).bind λe=>(inR (a:Int) b.1).bind λ_=>(b.1[(0+((a:Int)).toNat)]?).bind λd=>(kz d.Areas).bind λf=>some (.go ())
noncomputable def qi (e:(List Int)):Option (Bool) :=
  (fU (⟨e,0⟩:Stream) 5).bind λa=>(iX a.2).bind λb=>(jD b.2).bind λc=>(fU (⟨e,0⟩:Stream) 5).bind λf=>(iX f.2).bind λg=>(jD g.2).bind λl=>(qK a.1 ([]:List Alert)).bind λd=>(forL (List.range ((d.1.length:Int)).toNat) () (λk x s=>jC d k x s)).bind λj=>thenC j (λy=>(jS d.1).bind λv=>(tF c.1 ([]:List Receipt)).bind λm=>(jr m.1).bind λw=>(uf a.1 b.1 c.1 5 40).bind λh=>(kG h.1).bind λn=>(iP n h.1).bind λ_=>(p9 a.1 b.1 10).bind λi=>(ku i.1).bind λo=>(iP o i.1).bind λ_=>((bL a.1 f.1).bind λp=>bif p then (gY b.1 g.1).bind λq=>bif q then (eH c.1 l.1).bind λr=>bif r then (sK).bind λt=>some t else some false else some false else some false).bind λu=>some u) (λ_=>none)
end Go.Proofs.YtadpbmfnnlkdlacGreatDoor.Law

