/-
  The functions of the program, as plain functions over data (written by a program of ours).
-/
import Derived.Test.YtnfojnnfidnikaeGreatDoorEng5
open Go Go.Eng
namespace Go.Proofs.YtnfojnnfidnikaeGreatDoor.Law
set_option maxRecDepth 100000
set_option linter.unusedVariables false
set_option maxHeartbeats 1000000
structure Stream where
  L:(List Int)
  f_at:Int
def Stream.enc (s:Stream):List D:=[dl eI s.L,.int .i64 s.f_at]

structure Log_ where
  Player:ByteArray
  Item:ByteArray
  No:Int
  Clock:Int
  Long:Int
  Sum:ByteArray
def Log_.enc (s:Log_):List D:=[.str s.Player,.str s.Item,.int .i64 s.No,.int .i64 s.Clock,.int .i64 s.Long,.str s.Sum]
abbrev Log_.v (s:Log_):List V:=[(vS s.Player),(vS s.Item),(vI s.No),(vI s.Clock),(vI s.Long),(vS s.Sum)]

structure Beat where
  Player:ByteArray
  At:Int
  Clock:Int
def Beat.enc (s:Beat):List D:=[.str s.Player,.int .i64 s.At,.int .i64 s.Clock]
abbrev Beat.v (s:Beat):List V:=[(vS s.Player),(vI s.At),(vI s.Clock)]

structure Play where
  Player:ByteArray
  Item:ByteArray
  At:Int
  Long:Int
def Play.enc (s:Play):List D:=[.str s.Player,.str s.Item,.int .i64 s.At,.int .i64 s.Long]
abbrev Play.v (s:Play):List V:=[(vS s.Player),(vS s.Item),(vI s.At),(vI s.Long)]

structure Placed where
  f_i:Int
  f_at:Int
def Placed.enc (s:Placed):List D:=[.int .i64 s.f_i,.int .i64 s.f_at]

structure Beat_ where
  f_from:Int
  f_to:Int
def Beat_.enc (s:Beat_):List D:=[.int .i64 s.f_from,.int .i64 s.f_to]

structure Tally where
  Player:ByteArray
  Item:ByteArray
  Day:Int
  Many:Int
  Long:Int
def Tally.enc (s:Tally):List D:=[.str s.Player,.str s.Item,.int .i64 s.Day,.int .i64 s.Many,.int .i64 s.Long]
abbrev Tally.v (s:Tally):List V:=[(vS s.Player),(vS s.Item),(vI s.Day),(vI s.Many),(vI s.Long)]

structure Match where
  Want:Int
  Have:Int
def Match.enc (s:Match):List D:=[.int .i64 s.Want,.int .i64 s.Have]

structure Rect where
  X:Int
  Y:Int
  W:Int
  H:Int
def Rect.enc (s:Rect):List D:=[.int .i64 s.X,.int .i64 s.Y,.int .i64 s.W,.int .i64 s.H]
abbrev Rect.v (s:Rect):List V:=[(vI s.X),(vI s.Y),(vI s.W),(vI s.H)]

structure Run where
  f_from:Int
  f_to:Int
def Run.enc (s:Run):List D:=[.int .i64 s.f_from,.int .i64 s.f_to]

structure Entry where
  Key:ByteArray
  Item:ByteArray
  Version:Int
  First:Int
  Last:Int
  Every:Int
  Days:Int
  Except:(List Int)
  From:Int
  To:Int
  Prio:Int
  Tags:(List ByteArray)
  Gone:Bool
def Entry.enc (s:Entry):List D:=[.str s.Key,.str s.Item,.int .i64 s.Version,.int .i64 s.First,.int .i64 s.Last,.int .i64 s.Every,.int .i64 s.Days,dl eI s.Except,.int .i64 s.From,.int .i64 s.To,.int .i64 s.Prio,dl eS s.Tags,.bool s.Gone]
abbrev Entry.v (s:Entry):List V:=[(vS s.Key),(vS s.Item),(vI s.Version),(vI s.First),(vI s.Last),(vI s.Every),(vI s.Days),(vL eI s.Except),(vI s.From),(vI s.To),(vI s.Prio),(vL eS s.Tags),(vB s.Gone)]

structure Window where
  From:Int
  To:Int
def Window.enc (s:Window):List D:=[.int .i64 s.From,.int .i64 s.To]

structure Campaign where
  Key:ByteArray
  Class:ByteArray
  Time:Window
  Tags:(List ByteArray)
  Goal:Int
  Most:Int
  Cents:Int
def Campaign.enc (s:Campaign):List D:=[.str s.Key,.str s.Class,.int .i64 s.Time.From,.int .i64 s.Time.To,dl eS s.Tags,.int .i64 s.Goal,.int .i64 s.Most,.int .i64 s.Cents]
abbrev Campaign.v (s:Campaign):List V:=[(vS s.Key),(vS s.Class),(vI s.Time.From),(vI s.Time.To),(vL eS s.Tags),(vI s.Goal),(vI s.Most),(vI s.Cents)]

structure Alert where
  Id:ByteArray
  Sender:ByteArray
  Kind:Int
  Refs:(List ByteArray)
  At:Int
  Until:Int
  Weight:Int
  Areas:(List Rect)
  Text:ByteArray
def Alert.enc (s:Alert):List D:=[.str s.Id,.str s.Sender,.int .i64 s.Kind,dl eS s.Refs,.int .i64 s.At,.int .i64 s.Until,.int .i64 s.Weight,dl Rect.enc s.Areas,.str s.Text]
abbrev Alert.v (s:Alert):List V:=[(vS s.Id),(vS s.Sender),(vI s.Kind),(vL eS s.Refs),(vI s.At),(vI s.Until),(vI s.Weight),(vL Rect.enc s.Areas),(vS s.Text)]

structure Post where
  Player:ByteArray
  X:Int
  Y:Int
def Post.enc (s:Post):List D:=[.str s.Player,.int .i64 s.X,.int .i64 s.Y]
abbrev Post.v (s:Post):List V:=[(vS s.Player),(vI s.X),(vI s.Y)]

def wQ (d:Int) (a:Int):Option (Int) :=
  bif (decide (a<1))then some 0 else (Nk .i64 d a).bind λb=>(bif (decide (b<0))then some (w64 (b+a))else some b).bind λc=>some c
def jQ (a:Stream) (b:Int):Option (Int×Stream) :=
  bif ((a.L.length:Int)==0)then (wQ (w64 ((w64 (a.f_at+1))*7919)) b).bind λg=>some (g,(⟨a.L,(w64 (a.f_at+1))⟩:Stream))else (Nk .i64 (w64 ((w64 (a.f_at+1))-1)) (a.L.length:Int)).bind λc=>(Lv .i64 (w64 ((w64 (a.f_at+1))-1)) (a.L.length:Int)).bind λd=>(idx a.L c).bind λh=>(wQ h 1073741824).bind λe=>(wQ (w64 (e+(w64 (d*(w64 (7919+c)))))) b).bind λf=>some (f,(⟨a.L,(w64 (a.f_at+1))⟩:Stream))
def dZ (c:Stream) (a:(List Int)):Option (Int×Stream) :=
  (jQ c (a.length:Int)).bind λb=>(idx a b.1).bind λd=>some (d,b.2)
def fZ (d:Stream) (a:Int) (b:Int):Option (Int×Stream) :=
  bif (decide (b<a))then some (a,d)else (jQ d (w64 ((w64 (b-a))+1))).bind λc=>some ((w64 (a+c.1)),c.2)
def kR (c:Stream) (a:(List ByteArray)):Option (ByteArray×Stream) :=
  (jQ c (a.length:Int)).bind λb=>(idx a b.1).bind λd=>some (d,b.2)
def strconv_Itoa (x0:Int):Option (ByteArray) :=
  Qn x0
def strings_Join (x0:(List ByteArray)) (x1:ByteArray):Option (ByteArray) :=
  Pg x0 x1
def mP (e:Nat) (d:Int) (c:(List ByteArray)):Option (Ctl ((List ByteArray)) (Unit)) :=
  (strconv_Itoa d).bind λb=>(kv c ([b]:List ByteArray)).bind λa=>some (.go a)
def tY (a:(List Int)):Option (ByteArray) :=
  (forL a ([]:List ByteArray) (λk x s=>mP k x s)).bind λb=>thenC b (λd=>(strings_Join d (⟨#[32]⟩:ByteArray)).bind λc=>some c) (λ_=>none)
def uh (a:Log_):Option (ByteArray) :=
  (sJ a.Player (⟨#[32]⟩:ByteArray)).bind λd=>(sJ d a.Item).bind λe=>(sJ e (⟨#[32]⟩:ByteArray)).bind λf=>(tY ([a.No,a.Clock,a.Long]:List Int)).bind λb=>(sJ f b).bind λc=>some c
def xI (c:Nat) (b:Int) (a:Int):Option (Ctl (Int) (Unit)) :=
  some (.go (IntKind.u64.wrap ((vM .u64 a (IntKind.u64.wrap b))*1099511628211)))
def qV (d:Nat) (e:Nat) (a:Int×ByteArray):Option (Ctl (Int×ByteArray) (Unit)) :=
  (Km (⟨#[48,49,50,51,52,53,54,55,56,57,97,98,99,100,101,102]⟩:ByteArray) (a.1.tmod 16) (IntKind.u64.wrap ((a.1.tmod 16)+1))).bind λc=>(sJ c a.2).bind λb=>some (.go ((IntKind.u64.wrap (a.1.tdiv 16)),b))
def yc (c:ByteArray):Option (ByteArray) :=
  (forL (fU c) 14695981039346656037 (λk x s=>xI k x s)).bind λa=>thenC a (λe=>(forL (List.range (16:Int).toNat) (e,(⟨#[]⟩:ByteArray)) (λk x s=>qV k x s)).bind λb=>thenC b (λd=>some d.2) (λ_=>none)) (λ_=>none)
def yB (b:ByteArray) (a:Log_):Option (ByteArray) :=
  (sJ b (⟨#[32]⟩:ByteArray)).bind λe=>(uh a).bind λd=>(sJ e d).bind λf=>(yc f).bind λc=>some c
def mJ (c:Stream) (b:Int):Option (Bool×Stream) :=
  (jQ c b).bind λa=>some ((a.1==0),a.2)
def jo (h:ByteArray) (e:Nat) (k:Nat) (a:(List Log_)×ByteArray×Int×(List Int)×Int):Option (Ctl ((List Log_)×ByteArray×Int×(List Int)×Int) (Unit)) :=
  (kR (⟨a.2.2.2.1,a.2.2.2.2⟩:Stream) ([(⟨#[105,97]⟩:ByteArray),(⟨#[105,98]⟩:ByteArray)]:List ByteArray)).bind λb=>(dZ b.2 ([1,10,30,100]:List Int)).bind λc=>(yB a.2.1 (⟨h,b.1,(w64 ((e:Int)+1)),a.2.2.1,c.1,(⟨#[]⟩:ByteArray)⟩:Log_)).bind λf=>(dZ c.2 ([0,5,10,50,100]:List Int)).bind λg=>(mJ g.2 6).bind λd=>(bif (!d.1)then (kv a.1 ([(⟨h,b.1,(w64 ((e:Int)+1)),a.2.2.1,c.1,f⟩:Log_)]:List Log_)).bind λi=>some i else some a.1).bind λj=>some (.go (j,f,(w64 (a.2.2.1+g.1)),d.2.L,d.2.f_at))
def gu (e:Int) (h:Nat) (g:ByteArray) (c:(List Log_)×(List Int)×Int):Option (Ctl ((List Log_)×(List Int)×Int) (Unit)) :=
  (dZ (⟨c.2.1,c.2.2⟩:Stream) ([0,50,1000]:List Int)).bind λd=>(fZ d.2 0 e).bind λa=>(forL (List.range (a.1).toNat) (c.1,(⟨#[]⟩:ByteArray),d.1,a.2.L,a.2.f_at) (λk x s=>jo g k x s)).bind λf=>thenC f (λb=>some (.go (b.1,b.2.2.2.1,b.2.2.2.2))) (λ_=>none)
def jr (b:Stream) (c:Int):Option ((List Log_)×Stream) :=
  (forL ([(⟨#[112,97]⟩:ByteArray),(⟨#[112,98]⟩:ByteArray)]:List ByteArray) (([]:List Log_),b.L,b.f_at) (λk x s=>gu c k x s)).bind λd=>thenC d (λa=>some (a.1,(⟨a.2.1,a.2.2⟩:Stream))) (λ_=>none)
def iX (e:ByteArray) (f:Nat) (g:Nat) (a:(List Beat)×Int×Int×(List Int)×Int):Option (Ctl ((List Beat)×Int×Int×(List Int)×Int) (Unit)) :=
  (kv a.1 ([(⟨e,a.2.1,a.2.2.1⟩:Beat)]:List Beat)).bind λd=>(dZ (⟨a.2.2.2.1,a.2.2.2.2⟩:Stream) ([1,50,100,1000,2678400000]:List Int)).bind λc=>(dZ c.2 ([1,40,100,1300,2592000000]:List Int)).bind λb=>some (.go (d,(w64 (a.2.1+c.1)),(w64 (a.2.2.1+b.1)),b.2.L,b.2.f_at))
def iU (h:Nat) (g:ByteArray) (c:(List Beat)×(List Int)×Int):Option (Ctl ((List Beat)×(List Int)×Int) (Unit)) :=
  (fZ (⟨c.2.1,c.2.2⟩:Stream) 0 100).bind λd=>(fZ d.2 0 100).bind λe=>(fZ e.2 0 3).bind λa=>(forL (List.range (a.1).toNat) (c.1,d.1,e.1,a.2.L,a.2.f_at) (λk x s=>iX g k x s)).bind λf=>thenC f (λb=>some (.go (b.1,b.2.2.2.1,b.2.2.2.2))) (λ_=>none)
def iT (b:Stream):Option ((List Beat)×Stream) :=
  (forL ([(⟨#[112,97]⟩:ByteArray),(⟨#[112,98]⟩:ByteArray)]:List ByteArray) (([]:List Beat),b.L,b.f_at) (λk x s=>iU k x s)).bind λc=>thenC c (λa=>some (a.1,(⟨a.2.1,a.2.2⟩:Stream))) (λ_=>none)
def fM (f:ByteArray) (g:Nat) (h:Nat) (a:(List Play)×Int×(List Int)×Int):Option (Ctl ((List Play)×Int×(List Int)×Int) (Unit)) :=
  (kR (⟨a.2.2.1,a.2.2.2⟩:Stream) ([(⟨#[105,97]⟩:ByteArray),(⟨#[105,98]⟩:ByteArray)]:List ByteArray)).bind λc=>(dZ c.2 ([1,5,10,20]:List Int)).bind λd=>(dZ d.2 ([1,5,10,30]:List Int)).bind λb=>(kv a.1 ([(⟨f,c.1,a.2.1,d.1⟩:Play)]:List Play)).bind λe=>some (.go (e,(w64 (a.2.1+b.1)),b.2.L,b.2.f_at))
def dY (e:Int) (h:Nat) (g:ByteArray) (c:(List Play)×(List Int)×Int):Option (Ctl ((List Play)×(List Int)×Int) (Unit)) :=
  (dZ (⟨c.2.1,c.2.2⟩:Stream) ([0,5,86399990]:List Int)).bind λd=>(fZ d.2 0 e).bind λa=>(forL (List.range (a.1).toNat) (c.1,d.1,a.2.L,a.2.f_at) (λk x s=>fM g k x s)).bind λf=>thenC f (λb=>some (.go (b.1,b.2.2.1,b.2.2.2))) (λ_=>none)
def ja (b:Stream) (c:Int):Option ((List Play)×Stream) :=
  (forL ([(⟨#[112,97]⟩:ByteArray),(⟨#[112,98]⟩:ByteArray)]:List ByteArray) (([]:List Play),b.L,b.f_at) (λk x s=>dY c k x s)).bind λd=>thenC d (λa=>some (a.1,(⟨a.2.1,a.2.2⟩:Stream))) (λ_=>none)
def lM (c:ByteArray) (b:Int):Option (Ctl (Int) (Bool)) :=
  bif (decide (b<(c.size:Int)))then (z8 c b).bind λa=>(bif (decide ((a.toNat:Int)>=97))then bif (decide ((a.toNat:Int)<=122))then some false else bif (decide (b>0))then bif (decide ((a.toNat:Int)>=48))then bif (decide ((a.toNat:Int)<=57))then some false else bif ((a.toNat:Int)==45)then some false else some (!((a.toNat:Int)==95))else bif ((a.toNat:Int)==45)then some false else some (!((a.toNat:Int)==95))else some true else bif (decide (b>0))then bif (decide ((a.toNat:Int)>=48))then bif (decide ((a.toNat:Int)<=57))then some false else bif ((a.toNat:Int)==45)then some false else some (!((a.toNat:Int)==95))else bif ((a.toNat:Int)==45)then some false else some (!((a.toNat:Int)==95))else some true).bind λd=>bif d then some (.ret false)else some (.go (w64 (b+1)))else some (.brk b)
noncomputable def dX (a:ByteArray):Option (Bool) :=
  (dS 0 (λs=>lM a s)).bind λb=>thenC b (λd=>(bif (sNe a (⟨#[]⟩:ByteArray))then some (decide ((a.size:Int)<=40))else some false).bind λc=>some c) (λr=>some r)
def aS (a:Int) (c:Int) (b:Int):Option (Bool) :=
  (bif (decide (a<c))then some true else some (decide (a>b))).bind λd=>some d
noncomputable def mX (a:Log_):Option (Int) :=
  ((dX a.Player).bind λe=>bif (!e)then some true else (dX a.Item).bind λf=>some (!f)).bind λh=>bif h then some 5 else ((aS a.No 1 1000000).bind λb=>bif b then some true else (aS a.Clock 0 345686399999).bind λc=>bif c then some true else (aS a.Long 1 86400000).bind λd=>some d).bind λg=>bif g then some 1 else some 0
def pJ (x0:ByteArray) (x1:ByteArray):Option (ByteArray) :=
  Kj x0 x1
def lI (a:ByteArray):Option (Bool) :=
  (bif ((a.size:Int)==16)then (pJ a (⟨#[48,49,50,51,52,53,54,55,56,57,97,98,99,100,101,102]⟩:ByteArray)).bind λb=>some (sEq b (⟨#[]⟩:ByteArray))else some false).bind λc=>some c
def jM (a:ByteArray) (b:ByteArray):Option (Int) :=
  some (AB a b)
def strings_Compare (a:ByteArray) (b:ByteArray):Option (Int) :=
  (jM a b).bind λc=>some c
def cmp_isNaN_int (a:Int):Option (Bool) :=
  some (a != a)
def cmp_Compare_int (a:Int) (b:Int):Option (Int) :=
  (cmp_isNaN_int a).bind λd=>(cmp_isNaN_int b).bind λc=>bif d then bif c then some 0 else some (-1)else bif c then some 1 else bif (decide (a<b))then some (-1)else bif (decide (a>b))then some 1 else some 0
def nT (b:Nat) (a:Int) (c:Unit):Option (Ctl (Unit) (Int)) :=
  bif (a != 0)then some (.ret a)else some (.go ())
def kP (b:(List Int)):Option (Int) :=
  (forL b () (λk x s=>nT k x s)).bind λa=>thenC a (λc=>some 0) (λr=>some r)
def gW (a:Log_) (b:Log_):Option (Int) :=
  (strings_Compare a.Player b.Player).bind λc=>(cmp_Compare_int a.No b.No).bind λd=>(kP ([c,d]:List Int)).bind λe=>some e
noncomputable def nG (d:(List Log_)) (b:Nat) (a:Log_) (i:Unit):Option (Ctl (Unit) (Int)) :=
  (mX a).bind λc=>bif (c != 0)then some (.ret c)else (lI a.Sum).bind λe=>bif (!e)then some (.ret 3)else (bif (decide ((b:Int)>0))then (idx d (w64 ((b:Int)-1))).bind λh=>(gW h a).bind λf=>some (decide (f>=0))else some false).bind λg=>bif g then some (.ret 7)else some (.go ())
noncomputable def dW (a:(List Log_)):Option (Int) :=
  bif (decide ((a.length:Int)>2000))then some 2 else (forL a () (λk x s=>nG a k x s)).bind λb=>thenC b (λc=>some 0) (λr=>some r)
def eO (a:Int):Option Bool :=
  bif (decide (a<0))then none else bif (decide ((w64 (a-(w64 (0-0))))>0))then (zN (w64 (a-(w64 (0-0)))) 72).bind λ_=>some true else some false
def bL (c:Nat) (b:(List Log_)) (a:Int):Option (Ctl (Int) (Unit)) :=
  (bif (decide ((w64 (a+(b.length:Int)))<0))then none else some ()).bind λd=>some (.go (w64 (a+(b.length:Int))))
def bK (d:Nat) (c:(List Log_)) (b:(List Log_)):Option (Ctl ((List Log_)) (Unit)) :=
  (kv b c).bind λa=>some (.go a)
def fA (c:Int) (a:(List Log_)×Int):Option (Ctl ((List Log_)×Int) (Unit)) :=
  (bif (decide (a.2>c))then (inR a.2 a.1).bind λ_=>(a.1[(0+(a.2).toNat)]?).bind λd=>(inR (w64 (a.2-1)) a.1).bind λ_=>(a.1[(0+((w64 (a.2-1))).toNat)]?).bind λe=>(gW d e).bind λg=>some (decide (g<0))else some false).bind λh=>bif h then (inR (w64 (a.2-1)) a.1).bind λ_=>(a.1[(0+((w64 (a.2-1))).toNat)]?).bind λb=>(inR a.2 a.1).bind λ_=>(a.1[(0+(a.2).toNat)]?).bind λf=>(inR a.2 a.1).bind λ_=>(a.1[(0+(a.2).toNat)]?).bind λi=>(inR (w64 (a.2-1)) (a.1.set (0+(a.2).toNat) b)).bind λ_=>((a.1.set (0+(a.2).toNat) b)[(0+((w64 (a.2-1))).toNat)]?).bind λj=>some (.go (((a.1.set (0+(a.2).toNat) b).set (0+((w64 (a.2-1))).toNat) f),(w64 (a.2-1))))else some (.brk (a.1,a.2))
noncomputable def fe (c:Int) (b:Int) (a:(List Log_)×Int):Option (Ctl ((List Log_)×Int) (Unit)) :=
  bif (decide (a.2<c))then (dS (a.1,a.2) (λs=>fA b s)).bind λd=>thenC d (λe=>some (.go (e.1,(w64 (a.2+1))))) (λ_=>none)else some (.brk (a.1,a.2))
noncomputable def dJ (c:(List Log_)) (a:Int) (b:Int):Option ((List Log_)) :=
  (dS (c,(w64 (a+1))) (λs=>fe b a s)).bind λd=>thenC d (λe=>some e.1) (λ_=>none)
noncomputable def iR (c:Int) (a:(List Log_)×Int×Int):Option (Ctl ((List Log_)×Int×Int) (Unit)) :=
  bif (decide (a.2.2<=c))then (dJ a.1 a.2.1 a.2.2).bind λb=>(fu b a.1).bind λ_=>some (.go (b,a.2.2,(w64 (a.2.2+20))))else some (.brk (a.1,a.2.1,a.2.2))
def iL (b:Int) (a:Int) (c:Unit):Option (Ctl (Unit) (Unit)) :=
  bif (decide ((w64 (2*b))<=a))then none else some (.brk ())
noncomputable def iJ (b:Int) (a:Int):Option (Ctl (Int) (Unit)) :=
  bif (decide (a<b))then (dS () (λs=>iL a b s)).bind λc=>thenC c (λd=>(bif (decide ((w64 (0+a))<b))then none else some ()).bind λe=>some (.go (w64 (a*2)))) (λ_=>none)else some (.brk a)
noncomputable def fO (d:(List Log_)) (a:Int):Option ((List Log_)) :=
  (dS (d,0,20) (λs=>iR a s)).bind λe=>thenC e (λb=>(dJ b.1 b.2.1 a).bind λc=>(fu c b.1).bind λ_=>(dS 20 (λs=>iJ a s)).bind λf=>thenC f (λg=>some c) (λ_=>none)) (λ_=>none)
noncomputable def bZ (a:(List Log_)):Option ((List Log_)) :=
  (fO a (a.length:Int)).bind λb=>(fu b a).bind λ_=>some b
def dQ (b:(List (List Log_))):Option ((List Log_)) :=
  (forL b 0 (λk x s=>bL k x s)).bind λd=>thenC d (λf=>(eO f).bind λc=>(forL b ([]:List Log_) (λk x s=>bK k x s)).bind λe=>thenC e (λa=>(kE c a).bind λ_=>some a) (λ_=>none)) (λ_=>none)
def gQ (e:(List Log_)) (b:Int) (a:(List Log_)×Int×Int):Option (Ctl ((List Log_)×Int×Int) (Unit)) :=
  bif (decide (a.2.2<(((((e.length:Int)).toNat-(b).toNat):Nat):Int)))then (inN a.2.2 (((e.length:Int)).toNat-(b).toNat)).bind λ_=>(a.1[(((b).toNat)+(a.2.2).toNat)]?).bind λc=>(inN (w64 (a.2.2-1)) (((e.length:Int)).toNat-(b).toNat)).bind λ_=>(a.1[(((b).toNat)+((w64 (a.2.2-1))).toNat)]?).bind λd=>(bif (!((c.Player.toList==d.Player.toList)&&((c.Item.toList==d.Item.toList)&&((c.No==d.No)&&((c.Clock==d.Clock)&&((c.Long==d.Long)&&((c.Sum.toList==d.Sum.toList)&&true)))))))then (inN a.2.2 (((e.length:Int)).toNat-(b).toNat)).bind λ_=>(a.1[(((b).toNat)+(a.2.2).toNat)]?).bind λg=>(inR a.2.1 a.1).bind λ_=>(a.1[(0+(a.2.1).toNat)]?).bind λh=>some ((a.1.set (0+(a.2.1).toNat) g),(w64 (a.2.1+1)))else some (a.1,a.2.1)).bind λf=>some (.go (f.1,f.2,(w64 (a.2.2+1))))else some (.brk (a.1,a.2.1,a.2.2))
noncomputable def bJ (b:(List Log_)) (c:Int):Option (Ctl (Int) ((List Log_))) :=
  bif (decide (c<(b.length:Int)))then (inR c b).bind λ_=>(b[(0+(c).toNat)]?).bind λd=>(inR (w64 (c-1)) b).bind λ_=>(b[(0+((w64 (c-1))).toNat)]?).bind λe=>bif ((d.Player.toList==e.Player.toList)&&((d.Item.toList==e.Item.toList)&&((d.No==e.No)&&((d.Clock==e.Clock)&&((d.Long==e.Long)&&((d.Sum.toList==e.Sum.toList)&&true))))))then (neL b).bind λ_=>(xX b c (b.length:Int)).bind λ_=>(dS (b,c,1) (λs=>gQ b c s)).bind λf=>thenC f (λa=>(xX a.1 a.2.1 (a.1.length:Int)).bind λ_=>(xX (a.1.take ((a.2.1).toNat)++List.replicate (((a.1.length:Int)).toNat-(a.2.1).toNat) (⟨(⟨#[]⟩:ByteArray),(⟨#[]⟩:ByteArray),0,0,0,(⟨#[]⟩:ByteArray)⟩:Log_)++a.1.drop (((a.2.1).toNat)+(((a.1.length:Int)).toNat-(a.2.1).toNat))) 0 a.2.1).bind λ_=>(cutO b ((a.1.take ((a.2.1).toNat)++List.replicate (((a.1.length:Int)).toNat-(a.2.1).toNat) (⟨(⟨#[]⟩:ByteArray),(⟨#[]⟩:ByteArray),0,0,0,(⟨#[]⟩:ByteArray)⟩:Log_)++a.1.drop (((a.2.1).toNat)+(((a.1.length:Int)).toNat-(a.2.1).toNat))).take ((a.2.1).toNat))).bind λ_=>some (.ret ((a.1.take ((a.2.1).toNat)++List.replicate (((a.1.length:Int)).toNat-(a.2.1).toNat) (⟨(⟨#[]⟩:ByteArray),(⟨#[]⟩:ByteArray),0,0,0,(⟨#[]⟩:ByteArray)⟩:Log_)++a.1.drop (((a.2.1).toNat)+(((a.1.length:Int)).toNat-(a.2.1).toNat))).take ((a.2.1).toNat)))) (λ_=>none)else some (.go (w64 (c+1)))else some (.brk c)
noncomputable def dD (a:(List Log_)):Option ((List Log_)) :=
  bif (decide ((a.length:Int)<2))then some a else (dS 1 (λs=>bJ a s)).bind λb=>thenC b (λc=>some a) (λr=>some r)
noncomputable def jR (b:(List Log_)) (c:(List Log_)) (d:Nat) (g:Nat) (f:Unit):Option (Ctl (Unit) ((List Log_)×Int)) :=
  (idx ([b,c]:List (List Log_)) (d:Int)).bind λe=>(dW e).bind λa=>bif (a != 0)then some (.ret (([]:(List Log_)),a))else some (.go ())
def lm (b:(List Log_)) (a:Int):Option (Ctl (Int) ((List Log_)×Int)) :=
  bif (decide (a<(b.length:Int)))then (inR (w64 (a-1)) b).bind λ_=>(b[(0+((w64 (a-1))).toNat)]?).bind λc=>(inR a b).bind λ_=>(b[(0+(a).toNat)]?).bind λd=>(gW c d).bind λe=>bif (e==0)then some (.ret (([]:(List Log_)),13))else some (.go (w64 (a+1)))else some (.brk a)
def jP (a:Nat) (d:Nat) (b:(List Log_)):Option (Ctl ((List Log_)) (Unit)) :=
  (inR (a:Int) b).bind λ_=>(b[(0+((a:Int)).toNat)]?).bind λc=>some (.go (b.set (0+((a:Int)).toNat) (⟨(⟨#[]⟩:ByteArray),(⟨#[]⟩:ByteArray),0,0,0,(⟨#[]⟩:ByteArray)⟩:Log_)))
def jC (a:(List Log_)):Option ((List Log_)) :=
  (forL (List.range ((a.length:Int)).toNat) a (λk x s=>jP k x s)).bind λb=>thenC b (λc=>some c) (λ_=>none)
noncomputable def qi (c:(List Log_)) (d:(List Log_)):Option ((List Log_)×Int) :=
  (forL (List.range (2:Int).toNat) () (λk x s=>jR c d k x s)).bind λf=>thenC f (λi=>(dQ ([c,d]:List (List Log_))).bind λe=>(bZ e).bind λb=>(fu b e).bind λ_=>(dD b).bind λa=>(RB b a).bind λ_=>(dS 1 (λs=>lm a s)).bind λg=>thenC g (λh=>bif (decide ((a.length:Int)>2000))then some (([]:List Log_),2)else some (a,0)) (λr=>some r)) (λr=>some r)
def cK (a:Int):Option (Bool) :=
  (bif (decide (a>=0))then some (decide (a<345686400000))else some false).bind λb=>some b
def jD (a:Beat) (b:Beat):Option (Int) :=
  (strings_Compare a.Player b.Player).bind λc=>(cmp_Compare_int a.At b.At).bind λd=>(kP ([c,d]:List Int)).bind λe=>some e
noncomputable def jq (c:(List Beat)) (b:Nat) (a:Beat) (n:Unit):Option (Ctl (Unit) (Int)) :=
  (dX a.Player).bind λd=>bif (!d)then some (.ret 5)else ((cK a.At).bind λe=>bif (!e)then some true else (aS a.Clock 0 345686399999).bind λf=>some f).bind λh=>bif h then some (.ret 1)else (bif (decide ((b:Int)>0))then (idx c (w64 ((b:Int)-1))).bind λk=>(jD k a).bind λg=>some (decide (g>=0))else some false).bind λi=>bif i then some (.ret 7)else (bif (decide ((b:Int)>0))then (idx c (w64 ((b:Int)-1))).bind λl=>bif (sEq a.Player l.Player)then (idx c (w64 ((b:Int)-1))).bind λm=>some (decide (a.Clock<=m.Clock))else some false else some false).bind λj=>bif j then some (.ret 16)else some (.go ())
noncomputable def gy (a:(List Beat)):Option (Int) :=
  bif (decide ((a.length:Int)>500))then some 2 else (forL a () (λk x s=>jq a k x s)).bind λb=>thenC b (λc=>some 0) (λr=>some r)
def kK (f:ByteArray) (e:Bool) (h:Nat) (a:Beat) (b:(List Beat_)):Option (Ctl ((List Beat_)) (Unit)) :=
  (bif (sNe a.Player f)then some b else bif e then (kv b ([(⟨a.At,a.Clock⟩:Beat_)]:List Beat_)).bind λc=>some c else (kv b ([(⟨a.Clock,a.At⟩:Beat_)]:List Beat_)).bind λd=>some d).bind λg=>some (.go g)
def lY (b:(List Beat)) (d:ByteArray) (a:Bool):Option ((List Beat_)) :=
  (forL b ([]:List Beat_) (λk x s=>kK d a k x s)).bind λc=>thenC c (λe=>some e) (λ_=>none)
def iG (b:(List Beat_)) (c:Int) (a:Int):Option (Ctl (Int) (Unit)) :=
  (bif (decide (a<(b.length:Int)))then (idx b a).bind λe=>some (decide (e.f_from<=c))else some false).bind λd=>bif d then some (.go (w64 (a+1)))else some (.brk a)
noncomputable def jO (a:(List Beat_)) (c:Int):Option (Int×Int) :=
  bif ((a.length:Int)==0)then some (0,8)else (dS 0 (λs=>iG a c s)).bind λk=>thenC k (λd=>bif (d==0)then (idx a 0).bind λg=>(idx a 0).bind λh=>(cK (w64 (g.f_to-(w64 (h.f_from-c))))).bind λl=>bif (!l)then some (0,11)else some ((w64 (g.f_to-(w64 (h.f_from-c)))),0)else bif (d==(a.length:Int))then (idx a (w64 (d-1))).bind λi=>(idx a (w64 (d-1))).bind λj=>(cK (w64 ((w64 (i.f_to+c))-j.f_from))).bind λm=>bif (!m)then some (0,11)else some ((w64 ((w64 (i.f_to+c))-j.f_from)),0)else (idx a (w64 (d-1))).bind λb=>(idx a d).bind λe=>(bif (decide ((w64 (e.f_from-b.f_from))>2592000000))then some true else some (decide ((w64 (e.f_to-b.f_to))>2592000000))).bind λo=>bif o then some (0,2)else (Lv .i64 (w64 ((w64 (c-b.f_from))*(w64 (e.f_to-b.f_to)))) (w64 (e.f_from-b.f_from))).bind λf=>(cK (w64 (b.f_to+f))).bind λn=>bif (!n)then some (0,11)else some ((w64 (b.f_to+f)),0)) (λ_=>none)
def mG (b:Placed) (c:Placed):Option (Int) :=
  (cmp_Compare_int b.f_at c.f_at).bind λa=>some a
def dM (c:Int) (a:(List Placed)×Int):Option (Ctl ((List Placed)×Int) (Unit)) :=
  (bif (decide (a.2>c))then (inR a.2 a.1).bind λ_=>(a.1[(0+(a.2).toNat)]?).bind λd=>(inR (w64 (a.2-1)) a.1).bind λ_=>(a.1[(0+((w64 (a.2-1))).toNat)]?).bind λe=>(mG d e).bind λg=>some (decide (g<0))else some false).bind λh=>bif h then (inR (w64 (a.2-1)) a.1).bind λ_=>(a.1[(0+((w64 (a.2-1))).toNat)]?).bind λb=>(inR a.2 a.1).bind λ_=>(a.1[(0+(a.2).toNat)]?).bind λf=>(inR a.2 a.1).bind λ_=>(a.1[(0+(a.2).toNat)]?).bind λi=>(inR (w64 (a.2-1)) (a.1.set (0+(a.2).toNat) b)).bind λ_=>((a.1.set (0+(a.2).toNat) b)[(0+((w64 (a.2-1))).toNat)]?).bind λj=>some (.go (((a.1.set (0+(a.2).toNat) b).set (0+((w64 (a.2-1))).toNat) f),(w64 (a.2-1))))else some (.brk (a.1,a.2))
noncomputable def dL (c:Int) (b:Int) (a:(List Placed)×Int):Option (Ctl ((List Placed)×Int) (Unit)) :=
  bif (decide (a.2<c))then (dS (a.1,a.2) (λs=>dM b s)).bind λd=>thenC d (λe=>some (.go (e.1,(w64 (a.2+1))))) (λ_=>none)else some (.brk (a.1,a.2))
noncomputable def dn (c:(List Placed)) (a:Int) (b:Int):Option ((List Placed)) :=
  (dS (c,(w64 (a+1))) (λs=>dL b a s)).bind λd=>thenC d (λe=>some e.1) (λ_=>none)
noncomputable def fH (c:Int) (a:(List Placed)×Int×Int):Option (Ctl ((List Placed)×Int×Int) (Unit)) :=
  bif (decide (a.2.2<=c))then (dn a.1 a.2.1 a.2.2).bind λb=>(fu b a.1).bind λ_=>some (.go (b,a.2.2,(w64 (a.2.2+20))))else some (.brk (a.1,a.2.1,a.2.2))
def fJ (b:Int) (a:Int) (c:Unit):Option (Ctl (Unit) (Unit)) :=
  bif (decide ((w64 (2*b))<=a))then none else some (.brk ())
noncomputable def fK (b:Int) (a:Int):Option (Ctl (Int) (Unit)) :=
  bif (decide (a<b))then (dS () (λs=>fJ a b s)).bind λc=>thenC c (λd=>(bif (decide ((w64 (0+a))<b))then none else some ()).bind λe=>some (.go (w64 (a*2)))) (λ_=>none)else some (.brk a)
noncomputable def dU (d:(List Placed)) (a:Int):Option ((List Placed)) :=
  (dS (d,0,20) (λs=>fH a s)).bind λe=>thenC e (λb=>(dn b.1 b.2.1 a).bind λc=>(fu c b.1).bind λ_=>(dS 20 (λs=>fK a s)).bind λf=>thenC f (λg=>some c) (λ_=>none)) (λ_=>none)
noncomputable def bD (a:(List Placed)):Option ((List Placed)) :=
  (dU a (a.length:Int)).bind λb=>(fu b a).bind λ_=>some b
noncomputable def gY (i:Int) (c:(List Log_)) (h:(List Beat_)) (a:(List Placed)×(List Int)×Int):Option (Ctl ((List Placed)×(List Int)×Int) (Unit)) :=
  bif (decide (a.2.2<i))then (idx c a.2.2).bind λj=>(jO h j.Clock).bind λb=>(bif (b.2==0)then (kv a.1 ([(⟨a.2.2,b.1⟩:Placed)]:List Placed)).bind λe=>some (e,a.2.1)else bif (b.2==8)then (idx c a.2.2).bind λk=>(kv a.1 ([(⟨a.2.2,k.Clock⟩:Placed)]:List Placed)).bind λf=>some (f,a.2.1)else (kv a.2.1 ([a.2.2]:List Int)).bind λg=>some (a.1,g)).bind λd=>some (.go (d.1,d.2,(w64 (a.2.2+1))))else some (.brk (a.1,a.2.1,a.2.2))
noncomputable def o5 (c:(List Log_)) (b:Int) (h:Int) (e:(List Beat)):Option ((List Placed)×(List Int)) :=
  (idx c b).bind λi=>(lY e i.Player false).bind λg=>(dS (([]:List Placed),([]:List Int),b) (λs=>gY h c g s)).bind λf=>thenC f (λa=>(bD a.1).bind λd=>(fu d a.1).bind λ_=>some (d,a.2.1)) (λ_=>none)
def dw (x:(List Int)):Option ((List Int)) :=
  JL x
def jU (b:(List Log_)) (c:(List Play)×(List Int)×Int) (a:Int):Option (Ctl (Int) (Unit)) :=
  (bif (decide (a<(b.length:Int)))then (idx b a).bind λe=>(idx b c.2.2).bind λf=>some (sEq e.Player f.Player)else some false).bind λd=>bif d then some (.go (w64 (a+1)))else some (.brk a)
def mh (f:(List Log_)) (i:Nat) (b:Placed) (a:(List Play)×(List Int)×Int):Option (Ctl ((List Play)×(List Int)×Int) (Unit)) :=
  (idx f b.f_i).bind λc=>(bif (decide ((jI b.f_at a.2.2)>=(w64 (b.f_at+c.Long))))then some true else (cK (jI b.f_at a.2.2)).bind λg=>some (!g)).bind λh=>bif h then (kv a.2.1 ([b.f_i]:List Int)).bind λd=>some (.go (a.1,d,a.2.2))else (kv a.1 ([(⟨c.Player,c.Item,(jI b.f_at a.2.2),(w64 ((w64 (b.f_at+c.Long))-(jI b.f_at a.2.2)))⟩:Play)]:List Play)).bind λe=>some (.go (e,a.2.1,(w64 (b.f_at+c.Long))))
noncomputable def jT (b:(List Log_)) (g:(List Beat)) (a:(List Play)×(List Int)×Int):Option (Ctl ((List Play)×(List Int)×Int) (Unit)) :=
  bif (decide (a.2.2<(b.length:Int)))then (dS a.2.2 (λs=>jU b a s)).bind λh=>thenC h (λd=>(o5 b a.2.2 d g).bind λc=>(kv a.2.1 c.2).bind λf=>(forL c.1 (a.1,f,0) (λk x s=>mh b k x s)).bind λi=>thenC i (λe=>some (.go (e.1,e.2.1,d))) (λ_=>none)) (λ_=>none)else some (.brk (a.1,a.2.1,a.2.2))
noncomputable def tZ (c:(List Log_)) (b:(List Beat)):Option ((List Play)×(List Int)×Int) :=
  (dW c).bind λd=>bif (d != 0)then some (([]:(List Play)),([]:(List Int)),d)else (gy b).bind λe=>bif (e != 0)then some (([]:(List Play)),([]:(List Int)),e)else (dS (([]:List Play),([]:List Int),0) (λs=>jT c b s)).bind λg=>thenC g (λa=>(dw a.2.1).bind λf=>(fu f a.2.1).bind λ_=>some (a.1,f,0)) (λ_=>none)
def jA (a:Nat) (d:Nat) (b:(List Play)):Option (Ctl ((List Play)) (Unit)) :=
  (inR (a:Int) b).bind λ_=>(b[(0+((a:Int)).toNat)]?).bind λc=>some (.go (b.set (0+((a:Int)).toNat) (⟨(⟨#[]⟩:ByteArray),(⟨#[]⟩:ByteArray),0,0⟩:Play)))
def ji (a:(List Play)):Option ((List Play)) :=
  (forL (List.range ((a.length:Int)).toNat) a (λk x s=>jA k x s)).bind λb=>thenC b (λc=>some c) (λ_=>none)
def iP (a:Play) (b:Play):Option (Int) :=
  (strings_Compare a.Player b.Player).bind λc=>(cmp_Compare_int a.At b.At).bind λd=>(kP ([c,d]:List Int)).bind λe=>some e
noncomputable def fC (c:(List Play)) (b:Nat) (a:Play) (m:Unit):Option (Ctl (Unit) (Int)) :=
  ((dX a.Player).bind λd=>bif (!d)then some true else (dX a.Item).bind λe=>some (!e)).bind λi=>bif i then some (.ret 5)else ((cK a.At).bind λf=>bif (!f)then some true else (aS a.Long 1 86400000).bind λg=>some g).bind λj=>bif j then some (.ret 1)else (bif (decide ((b:Int)>0))then (idx c (w64 ((b:Int)-1))).bind λl=>(iP l a).bind λh=>some (decide (h>=0))else some false).bind λk=>bif k then some (.ret 7)else some (.go ())
noncomputable def fB (a:(List Play)):Option (Int) :=
  bif (decide ((a.length:Int)>3000))then some 2 else (forL a () (λk x s=>fC a k x s)).bind λb=>thenC b (λc=>some 0) (λr=>some r)
def uo (a:Int) (b:Int):Option (Int) :=
  some (w64 ((w64 ((w64 ((w64 (a+(w64 (b*60000))))+86400000)).tdiv 86400000))-1))
def mg (a:Tally) (b:Tally):Option (Int) :=
  (strings_Compare a.Player b.Player).bind λd=>(strings_Compare a.Item b.Item).bind λe=>(cmp_Compare_int a.Day b.Day).bind λf=>(kP ([d,e,f]:List Int)).bind λc=>some c
def uR (c:Int):Option (Int) :=
  (bif (decide (c>=4294967296))then (LH .u64 c 32).bind λh=>some (h,32)else some (c,0)).bind λa=>(bif (decide (a.1>=65536))then (LH .u64 a.1 16).bind λf=>some (f,(w64 (a.2+16)))else some (a.1,a.2)).bind λb=>(bif (decide (b.1>=256))then (LH .u64 b.1 8).bind λg=>some (g,(w64 (b.2+8)))else some (b.1,b.2)).bind λd=>(z8 (⟨#[0,1,2,2,3,3,3,3,4,4,4,4,4,4,4,4,5,5,5,5,5,5,5,5,5,5,5,5,5,5,5,5,6,6,6,6,6,6,6,6,6,6,6,6,6,6,6,6,6,6,6,6,6,6,6,6,6,6,6,6,6,6,6,6,7,7,7,7,7,7,7,7,7,7,7,7,7,7,7,7,7,7,7,7,7,7,7,7,7,7,7,7,7,7,7,7,7,7,7,7,7,7,7,7,7,7,7,7,7,7,7,7,7,7,7,7,7,7,7,7,7,7,7,7,7,7,7,7,8,8,8,8,8,8,8,8,8,8,8,8,8,8,8,8,8,8,8,8,8,8,8,8,8,8,8,8,8,8,8,8,8,8,8,8,8,8,8,8,8,8,8,8,8,8,8,8,8,8,8,8,8,8,8,8,8,8,8,8,8,8,8,8,8,8,8,8,8,8,8,8,8,8,8,8,8,8,8,8,8,8,8,8,8,8,8,8,8,8,8,8,8,8,8,8,8,8,8,8,8,8,8,8,8,8,8,8,8,8,8,8,8,8,8,8,8,8,8,8,8,8,8,8,8,8,8,8]⟩:ByteArray) (IntKind.u8.wrap d.1)).bind λe=>some (w64 (d.2+(w64 (e.toNat:Int))))
def kI (b:Int):Option (Int) :=
  (uR b).bind λa=>some a
def eH (c:Int) (a:(List Tally)×Int):Option (Ctl ((List Tally)×Int) (Unit)) :=
  (bif (decide (a.2>c))then (inR a.2 a.1).bind λ_=>(a.1[(0+(a.2).toNat)]?).bind λd=>(inR (w64 (a.2-1)) a.1).bind λ_=>(a.1[(0+((w64 (a.2-1))).toNat)]?).bind λe=>(mg d e).bind λg=>some (decide (g<0))else some false).bind λh=>bif h then (inR (w64 (a.2-1)) a.1).bind λ_=>(a.1[(0+((w64 (a.2-1))).toNat)]?).bind λb=>(inR a.2 a.1).bind λ_=>(a.1[(0+(a.2).toNat)]?).bind λf=>(inR a.2 a.1).bind λ_=>(a.1[(0+(a.2).toNat)]?).bind λi=>(inR (w64 (a.2-1)) (a.1.set (0+(a.2).toNat) b)).bind λ_=>((a.1.set (0+(a.2).toNat) b)[(0+((w64 (a.2-1))).toNat)]?).bind λj=>some (.go (((a.1.set (0+(a.2).toNat) b).set (0+((w64 (a.2-1))).toNat) f),(w64 (a.2-1))))else some (.brk (a.1,a.2))
noncomputable def eF (c:Int) (b:Int) (a:(List Tally)×Int):Option (Ctl ((List Tally)×Int) (Unit)) :=
  bif (decide (a.2<c))then (dS (a.1,a.2) (λs=>eH b s)).bind λd=>thenC d (λe=>some (.go (e.1,(w64 (a.2+1))))) (λ_=>none)else some (.brk (a.1,a.2))
noncomputable def fD (c:(List Tally)) (a:Int) (b:Int):Option ((List Tally)) :=
  (dS (c,(w64 (a+1))) (λs=>eF b a s)).bind λd=>thenC d (λe=>some e.1) (λ_=>none)
noncomputable def gD (b:Int) (a:Int) (c:(List Tally)) (e:Int) (f:Unit):Option (Ctl (Unit) ((List Tally))) :=
  bif (decide ((w64 (b-a))<=12))then (fD c a b).bind λd=>(fu d c).bind λ_=>some (.ret d)else bif (e==0)then none else none
noncomputable def iI (a:(List Tally)) (b:Int) (c:Int) (d:Int):Option ((List Tally)) :=
  (dS () (λs=>gD c b a d s)).bind λe=>thenC e (λf=>some a) (λr=>some r)
noncomputable def bO (a:(List Tally)):Option ((List Tally)) :=
  (kI (IntKind.u64.wrap (a.length:Int))).bind λc=>(iI a 0 (a.length:Int) c).bind λb=>(fu b a).bind λ_=>some b
def lG (m:Int) (n:Nat) (d:Play) (j:(List (Tally×Tally))):Option (Ctl ((List (Tally×Tally))) (Unit)) :=
  (uo d.At m).bind λg=>(bif (vW (λ(a b:Tally)=>(eqS a.Player b.Player&&(eqS a.Item b.Item&&(eqI a.Day b.Day&&(eqI a.Many b.Many&&(eqI a.Long b.Long&&true)))))) (⟨d.Player,d.Item,g,0,0⟩:Tally) j).isNone then (RI (vW (λ(a b:Tally)=>(eqS a.Player b.Player&&(eqS a.Item b.Item&&(eqI a.Day b.Day&&(eqI a.Many b.Many&&(eqI a.Long b.Long&&true)))))) (⟨d.Player,d.Item,g,0,0⟩:Tally) j)).bind λ_=>some (j++[((⟨d.Player,d.Item,g,0,0⟩:Tally),(⟨d.Player,d.Item,g,0,0⟩:Tally))])else some j).bind λe=>((vW (λ(a b:Tally)=>(eqS a.Player b.Player&&(eqS a.Item b.Item&&(eqI a.Day b.Day&&(eqI a.Many b.Many&&(eqI a.Long b.Long&&true)))))) (⟨d.Player,d.Item,g,0,0⟩:Tally) e)).bind λf=>(e[f]?).bind λi=>(e[f]?).bind λc=>((vW (λ(a b:Tally)=>(eqS a.Player b.Player&&(eqS a.Item b.Item&&(eqI a.Day b.Day&&(eqI a.Many b.Many&&(eqI a.Long b.Long&&true)))))) (⟨d.Player,d.Item,g,0,0⟩:Tally) (e.set f (c.1,(⟨c.2.Player,c.2.Item,c.2.Day,(w64 (i.2.Many+1)),c.2.Long⟩:Tally))))).bind λk=>((e.set f (c.1,(⟨c.2.Player,c.2.Item,c.2.Day,(w64 (i.2.Many+1)),c.2.Long⟩:Tally)))[k]?).bind λl=>((e.set f (c.1,(⟨c.2.Player,c.2.Item,c.2.Day,(w64 (i.2.Many+1)),c.2.Long⟩:Tally)))[k]?).bind λh=>some (.go ((e.set f (c.1,(⟨c.2.Player,c.2.Item,c.2.Day,(w64 (i.2.Many+1)),c.2.Long⟩:Tally))).set k (h.1,(⟨h.2.Player,h.2.Item,h.2.Day,h.2.Many,(w64 (l.2.Long+d.Long))⟩:Tally))))
def ko (c:(List (Tally×Tally))) (e:(Nat×Tally)) (d:(List Tally)):Option (Ctl ((List Tally)) (Unit)) :=
  (c[e.1]?).bind λb=>(kv d ([b.2]:List Tally)).bind λa=>some (.go a)
noncomputable def rG (a:(List Play)) (f:Int):Option ((List Tally)×Int) :=
  (fB a).bind λb=>bif (b != 0)then some (([]:(List Tally)),b)else (aS f (-1440) 1440).bind λj=>bif j then some (([]:(List Tally)),1)else (forL a ([]:List (Tally×Tally)) (λk x s=>lG f k x s)).bind λh=>thenC h (λd=>MH (pmL d) (λg=>(CW (λx s=>ko d x s) g ([]:List Tally)).bind λi=>thenC i (λe=>(bO e).bind λc=>(fu c e).bind λ_=>some (c,0)) (λ_=>none))) (λ_=>none)
def jk (a:Nat) (d:Nat) (b:(List Tally)):Option (Ctl ((List Tally)) (Unit)) :=
  (inR (a:Int) b).bind λ_=>(b[(0+((a:Int)).toNat)]?).bind λc=>some (.go (b.set (0+((a:Int)).toNat) (⟨(⟨#[]⟩:ByteArray),(⟨#[]⟩:ByteArray),0,0,0⟩:Tally)))
def iW (a:(List Tally)):Option ((List Tally)) :=
  (forL (List.range ((a.length:Int)).toNat) a (λk x s=>jk k x s)).bind λb=>thenC b (λc=>some c) (λ_=>none)
def nu (a:Int) (b:Int):Option (Int) :=
  some (jI (w64 (a-b)) (w64 (b-a)))
noncomputable def iV (d:(List Play)) (b:(List Play)) (c:Nat) (g:Nat) (f:Unit):Option (Ctl (Unit) ((List Match)×(List Int)×Int)) :=
  (idx ([d,b]:List (List Play)) (c:Int)).bind λe=>(fB e).bind λa=>bif (a != 0)then some (.ret (([]:(List Match)),([]:(List Int)),a))else some (.go ())
def jE (e:(List Bool)×(List Match)) (a:Play) (h:Int) (g:(List Play)) (d:Nat) (c:Play) (b:Int):Option (Ctl (Int) (Unit)) :=
  ((inR (d:Int) e.1).bind λ_=>(e.1[(0+((d:Int)).toNat)]?).bind λf=>bif f then some true else bif (sNe c.Player a.Player)then some true else bif (sNe c.Item a.Item)then some true else (nu c.At a.At).bind λi=>some (decide (i>h))).bind λl=>bif l then some (.go b)else (bif (decide (b<0))then some true else (nu c.At a.At).bind λj=>(idx g b).bind λo=>(nu o.At a.At).bind λk=>some (decide (j<k))).bind λm=>(bif m then some (d:Int)else some b).bind λn=>some (.go n)
def mI (c:(List Play)) (f:Int) (e:Nat) (i:Play) (a:(List Bool)×(List Match)):Option (Ctl ((List Bool)×(List Match)) (Unit)) :=
  (forL c (-1) (λk x s=>jE a i f c k x s)).bind λg=>thenC g (λb=>(bif (decide (b>=0))then (inR b a.1).bind λ_=>(a.1[(0+(b).toNat)]?).bind λj=>some (a.1.set (0+(b).toNat) true)else some a.1).bind λh=>(kv a.2 ([(⟨(e:Int),b⟩:Match)]:List Match)).bind λd=>some (.go (h,d))) (λ_=>none)
def mK (c:Nat) (e:Bool) (a:(List Int)):Option (Ctl ((List Int)) (Unit)) :=
  (bif (!e)then (kv a ([(c:Int)]:List Int)).bind λb=>some b else some a).bind λd=>some (.go d)
noncomputable def qg (d:(List Play)) (a:(List Play)) (b:Int):Option ((List Match)×(List Int)×Int) :=
  (forL (List.range (2:Int).toNat) () (λk x s=>iV d a k x s)).bind λf=>thenC f (λl=>(aS b 0 86400000).bind λi=>bif i then some (([]:(List Match)),([]:(List Int)),1)else (mkN (a.length:Int) 1).bind λe=>(forL d ((List.replicate e (false:Bool)),([]:List Match)) (λk x s=>mI a b k x s)).bind λg=>thenC g (λc=>(forL c.1 ([]:List Int) (λk x s=>mK k x s)).bind λh=>thenC h (λj=>some (c.2,j,0)) (λ_=>none)) (λ_=>none)) (λr=>some r)
def jh (a:Nat) (d:Nat) (b:(List Match)):Option (Ctl ((List Match)) (Unit)) :=
  (inR (a:Int) b).bind λ_=>(b[(0+((a:Int)).toNat)]?).bind λc=>some (.go (b.set (0+((a:Int)).toNat) (⟨0,0⟩:Match)))
def iZ (a:(List Match)):Option ((List Match)) :=
  (forL (List.range ((a.length:Int)).toNat) a (λk x s=>jh k x s)).bind λb=>thenC b (λc=>some c) (λ_=>none)
def wR (a:Log_):Option (ByteArray) :=
  (sJ a.Player (⟨#[32]⟩:ByteArray)).bind λj=>(sJ j a.Item).bind λk=>(sJ k (⟨#[32]⟩:ByteArray)).bind λl=>(strconv_Itoa a.No).bind λd=>(sJ l d).bind λe=>(sJ e (⟨#[32]⟩:ByteArray)).bind λf=>(strconv_Itoa a.Clock).bind λb=>(sJ f b).bind λg=>(sJ g (⟨#[32]⟩:ByteArray)).bind λh=>(strconv_Itoa a.Long).bind λc=>(sJ h c).bind λi=>some i
def gX (a:Int):Option (Bool) :=
  some ((EF .i64 a (w64 (a-1)))==0)
def mQ (x0:Int):Option (Int) :=
  tzF x0
def bP (b:Int) (e:Int) (a:(List Int)×Int×Int):Option (Ctl ((List Int)×Int×Int) (Unit)) :=
  bif (decide (a.2.1>=(IntKind.u64.wrap b)))then (z8 (⟨#[48,49,50,51,52,53,54,55,56,57,97,98,99,100,101,102,103,104,105,106,107,108,109,110,111,112,113,114,115,116,117,118,119,120,121,122]⟩:ByteArray) (EF .u64 a.2.1 (IntKind.u64.wrap ((IntKind.u64.wrap b)-1)))).bind λc=>(inN (w64 (a.2.2-1)) 65).bind λ_=>(a.1[((w64 (a.2.2-1))).toNat]?).bind λf=>(LH .u64 a.2.1 (IntKind.u64.wrap e)).bind λd=>some (.go ((a.1.set ((w64 (a.2.2-1))).toNat (c.toNat:Int)),d,(w64 (a.2.2-1))))else some (.brk (a.1,a.2.1,a.2.2))
def jJ (b:Int) (a:(List Int)×Int×Int):Option (Ctl ((List Int)×Int×Int) (Unit)) :=
  bif (decide (a.2.1>=(IntKind.u64.wrap b)))then (Lv .u64 a.2.1 (IntKind.u64.wrap b)).bind λc=>(z8 (⟨#[48,49,50,51,52,53,54,55,56,57,97,98,99,100,101,102,103,104,105,106,107,108,109,110,111,112,113,114,115,116,117,118,119,120,121,122]⟩:ByteArray) (IntKind.u64.wrap (a.2.1-(IntKind.u64.wrap (c*(IntKind.u64.wrap b)))))).bind λd=>(inN (w64 (a.2.2-1)) 65).bind λ_=>(a.1[((w64 (a.2.2-1))).toNat]?).bind λe=>some (.go ((a.1.set ((w64 (a.2.2-1))).toNat (d.toNat:Int)),c,(w64 (a.2.2-1))))else some (.brk (a.1,a.2.1,a.2.2))
noncomputable def fF (q:(List Int)) (g:Int) (c:Int) (f:Bool) (i:Bool):Option ((List Int)×ByteArray) :=
  (bif (decide (c<2))then some true else bif (c==10)then some true else some (decide (c>36))).bind λp=>(bif p then none else some ()).bind λv=>(bif f then some (IntKind.u64.wrap (0-g))else some g).bind λh=>(gX c).bind λn=>(bif n then (mQ (IntKind.u64.wrap c)).bind λo=>(dS ((List.replicate 65 (0:Int)),h,65) (λs=>bP c o s)).bind λl=>thenC l (λd=>(z8 (⟨#[48,49,50,51,52,53,54,55,56,57,97,98,99,100,101,102,103,104,105,106,107,108,109,110,111,112,113,114,115,116,117,118,119,120,121,122]⟩:ByteArray) d.2.1).bind λj=>(inN (w64 (d.2.2-1)) 65).bind λ_=>(d.1[((w64 (d.2.2-1))).toNat]?).bind λr=>some ((d.1.set ((w64 (d.2.2-1))).toNat (j.toNat:Int)),(w64 (d.2.2-1)))) (λ_=>none)else (dS ((List.replicate 65 (0:Int)),h,65) (λs=>jJ c s)).bind λm=>thenC m (λe=>(z8 (⟨#[48,49,50,51,52,53,54,55,56,57,97,98,99,100,101,102,103,104,105,106,107,108,109,110,111,112,113,114,115,116,117,118,119,120,121,122]⟩:ByteArray) e.2.1).bind λk=>(inN (w64 (e.2.2-1)) 65).bind λ_=>(e.1[((w64 (e.2.2-1))).toNat]?).bind λt=>some ((e.1.set ((w64 (e.2.2-1))).toNat (k.toNat:Int)),(w64 (e.2.2-1)))) (λ_=>none)).bind λb=>(bif f then (inN (w64 (b.2-1)) 65).bind λ_=>(b.1[((w64 (b.2-1))).toNat]?).bind λu=>some ((b.1.set ((w64 (b.2-1))).toNat 45),(w64 (b.2-1)))else some (b.1,b.2)).bind λa=>bif i then (M5 a.1 65).bind λ_=>(xX a.1 a.2 (a.1.length:Int)).bind λ_=>none else (M5 a.1 65).bind λ_=>(xX a.1 a.2 (a.1.length:Int)).bind λ_=>some (([]:(List Int)),(Go.strOfNums (FI a.1 ((a.2).toNat) (((a.1.length:Int)).toNat-(a.2).toNat))))
noncomputable def jd (b:Int) (a:Int):Option (ByteArray) :=
  bif (a==10)then bif (decide (b<100))then none else none else (fF ([]:List Int) b a false false).bind λc=>some c.2
noncomputable def kX (b:Int) (a:Int):Option (ByteArray) :=
  (jd b a).bind λc=>some c
def strings_Repeat (x0:ByteArray) (x1:Int):Option (ByteArray) :=
  Gr x0 x1
def qd (c:ByteArray) (b:Nat) (e:Nat) (d:Int):Option (Ctl (Int) (Unit)) :=
  (z8 c (b:Int)).bind λa=>some (.go (IntKind.u64.wrap ((vM .u64 d (IntKind.u64.wrap (a.toNat:Int)))*1099511628211)))
noncomputable def oI (b:ByteArray):Option (ByteArray) :=
  (forL (List.range ((b.size:Int)).toNat) 14695981039346656037 (λk x s=>qd b k x s)).bind λc=>thenC c (λf=>(kX f 16).bind λa=>(strings_Repeat (⟨#[48]⟩:ByteArray) (w64 (16-(a.size:Int)))).bind λd=>(sJ d a).bind λe=>some e) (λ_=>none)
noncomputable def sV (a:Log_):Option (ByteArray) :=
  (wR a).bind λc=>(sJ (⟨#[108,101,97,102,32]⟩:ByteArray) c).bind λd=>(sJ d (⟨#[32]⟩:ByteArray)).bind λe=>(sJ e a.Sum).bind λf=>(oI f).bind λb=>some b
noncomputable def nI (e:Nat) (d:Log_) (c:(List ByteArray)):Option (Ctl ((List ByteArray)) (Unit)) :=
  (sV d).bind λb=>(kv c ([b]:List ByteArray)).bind λa=>some (.go a)
noncomputable def o9 (a:(List Log_)):Option ((List ByteArray)) :=
  (forL a ([]:List ByteArray) (λk x s=>nI k x s)).bind λb=>thenC b (λc=>some c) (λ_=>none)
noncomputable def nE (a:ByteArray) (b:ByteArray):Option (ByteArray) :=
  (sJ (⟨#[110,111,100,101,32]⟩:ByteArray) a).bind λd=>(sJ d (⟨#[32]⟩:ByteArray)).bind λe=>(sJ e b).bind λf=>(oI f).bind λc=>some c
noncomputable def qG (b:(List ByteArray)) (a:(List ByteArray)×Int):Option (Ctl ((List ByteArray)×Int) (Unit)) :=
  bif (decide (a.2<(b.length:Int)))then (bif (decide ((w64 (a.2+1))<(b.length:Int)))then (idx b a.2).bind λg=>(idx b (w64 (a.2+1))).bind λh=>(nE g h).bind λe=>(kv a.1 ([e]:List ByteArray)).bind λc=>some c else (idx b a.2).bind λi=>(kv a.1 ([i]:List ByteArray)).bind λd=>some d).bind λf=>some (.go (f,(w64 (a.2+2))))else some (.brk (a.1,a.2))
noncomputable def pu (a:(List ByteArray)):Option ((List ByteArray)) :=
  (dS (([]:List ByteArray),0) (λs=>qG a s)).bind λb=>thenC b (λc=>some c.1) (λ_=>none)
noncomputable def kJ (a:(List ByteArray)×Int×(List ByteArray)):Option (Ctl ((List ByteArray)×Int×(List ByteArray)) (Unit)) :=
  bif (decide ((a.2.2.length:Int)>1))then (bif (decide ((vM .i64 a.2.1 1)<(a.2.2.length:Int)))then (idx a.2.2 (vM .i64 a.2.1 1)).bind λe=>(kv a.1 ([e]:List ByteArray)).bind λb=>some b else some a.1).bind λd=>(pu a.2.2).bind λc=>some (.go (d,(w64 (a.2.1.tdiv 2)),c))else some (.brk (a.1,a.2.1,a.2.2))
noncomputable def vZ (a:(List Log_)) (b:Int):Option ((List ByteArray)×Int) :=
  (dW a).bind λc=>bif (c != 0)then some (([]:(List ByteArray)),c)else (aS b 0 (w64 ((a.length:Int)-1))).bind λe=>bif e then some (([]:(List ByteArray)),1)else (o9 a).bind λf=>(dS (([]:List ByteArray),b,f) (λs=>kJ s)).bind λd=>thenC d (λg=>some (g.1,0)) (λ_=>none)
def fQ (b:(List ByteArray)):Option ((List ByteArray)) :=
  (kv [] b).bind λa=>some a
noncomputable def lW (a:(List ByteArray)):Option (Ctl ((List ByteArray)) (Unit)) :=
  bif (decide ((a.length:Int)>1))then (pu a).bind λb=>some (.go b)else some (.brk a)
noncomputable def vO (a:(List Log_)):Option (ByteArray×Int) :=
  (dW a).bind λb=>bif (b != 0)then some ((⟨#[]⟩:ByteArray),b)else (o9 a).bind λc=>bif ((c.length:Int)==0)then (oI (⟨#[]⟩:ByteArray)).bind λe=>some (e,0)else (dS c (λs=>lW s)).bind λd=>thenC d (λf=>(idx f 0).bind λg=>some (g,0)) (λ_=>none)
def kG (b:ByteArray):Option (Bool) :=
  (lI b).bind λa=>some (!a)
def bS (a:ByteArray->Option Bool) (b:Nat) (d:ByteArray) (e:Unit):Option (Ctl (Unit) (Int)) :=
  (a d).bind λc=>bif c then some (.ret (b:Int))else some (.go ())
def gH (c:(List ByteArray)) (a:ByteArray->Option Bool):Option (Int) :=
  (forL c () (λk x s=>bS a k x s)).bind λb=>thenC b (λd=>some (-1)) (λr=>some r)
def dG (c:(List ByteArray)) (a:ByteArray->Option Bool):Option (Bool) :=
  (gH c a).bind λb=>some (decide (b>=0))
noncomputable def lN (k:ByteArray) (b:Int) (d:Int) (a:Log_) (e:(List ByteArray)):Option (Int) :=
  (lI k).bind λj=>bif (!j)then some 3 else ((aS b 1 2000).bind λf=>bif f then some true else (aS d 0 (w64 (b-1))).bind λg=>some g).bind λl=>bif l then some 1 else (mX a).bind λc=>bif (c != 0)then some c else ((lI a.Sum).bind λh=>bif (!h)then some true else (dG e (λx0=>kG x0)).bind λi=>some i).bind λm=>bif m then some 3 else some 0
noncomputable def eY (a:Int×Int×(List ByteArray)×ByteArray):Option (Ctl (Int×Int×(List ByteArray)×ByteArray) (Bool×Int)) :=
  bif (decide (a.1>1))then bif (decide ((vM .i64 a.2.1 1)>=a.1))then some (.go ((w64 ((w64 (a.1+1)).tdiv 2)),(w64 (a.2.1.tdiv 2)),a.2.2.1,a.2.2.2))else bif ((a.2.2.1.length:Int)==0)then some (.ret (false,0))else (bif ((a.2.1.tmod 2)==1)then (idx a.2.2.1 0).bind λe=>(nE e a.2.2.2).bind λb=>some b else (idx a.2.2.1 0).bind λf=>(nE a.2.2.2 f).bind λc=>some c).bind λd=>(Nq a.2.2.1 1 a.2.2.1.length).bind λg=>some (.go ((w64 ((w64 (a.1+1)).tdiv 2)),(w64 (a.2.1.tdiv 2)),g,d))else some (.brk (a.1,a.2.1,a.2.2.1,a.2.2.2))
noncomputable def pz (f:ByteArray) (c:Int) (a:Int) (b:Log_) (d:(List ByteArray)):Option (Bool×Int) :=
  (lN f c a b d).bind λe=>bif (e != 0)then some (false,e)else (sV b).bind λi=>(dS (c,a,d,i) (λs=>eY s)).bind λh=>thenC h (λg=>(bif ((g.2.2.1.length:Int)==0)then some (sEq g.2.2.2 f)else some false).bind λj=>some (j,0)) (λr=>some r)
def dP (s2_2:(List Log_)) (c:Nat) (a:Log_) (d:Unit):Option (Ctl (Unit) (Bool)) :=
  (idx s2_2 (c:Int)).bind λb=>bif (!((a.Player.toList==b.Player.toList)&&((a.Item.toList==b.Item.toList)&&((a.No==b.No)&&((a.Clock==b.Clock)&&((a.Long==b.Long)&&((a.Sum.toList==b.Sum.toList)&&true)))))))then some (.ret false)else some (.go ())
def fq (s1_1:(List Log_)) (s2_2:(List Log_)):Option (Bool) :=
  bif ((s1_1.length:Int) != (s2_2.length:Int))then some false else (forL s1_1 () (λk x s=>dP s2_2 k x s)).bind λa=>thenC a (λb=>some true) (λr=>some r)
def dE (s2_2:(List Beat)) (c:Nat) (a:Beat) (d:Unit):Option (Ctl (Unit) (Bool)) :=
  (idx s2_2 (c:Int)).bind λb=>bif (!((a.Player.toList==b.Player.toList)&&((a.At==b.At)&&((a.Clock==b.Clock)&&true))))then some (.ret false)else some (.go ())
def d9 (s1_1:(List Beat)) (s2_2:(List Beat)):Option (Bool) :=
  bif ((s1_1.length:Int) != (s2_2.length:Int))then some false else (forL s1_1 () (λk x s=>dE s2_2 k x s)).bind λa=>thenC a (λb=>some true) (λr=>some r)
def dF (s2_2:(List Play)) (c:Nat) (a:Play) (d:Unit):Option (Ctl (Unit) (Bool)) :=
  (idx s2_2 (c:Int)).bind λb=>bif (!((a.Player.toList==b.Player.toList)&&((a.Item.toList==b.Item.toList)&&((a.At==b.At)&&((a.Long==b.Long)&&true)))))then some (.ret false)else some (.go ())
def ek (s1_1:(List Play)) (s2_2:(List Play)):Option (Bool) :=
  bif ((s1_1.length:Int) != (s2_2.length:Int))then some false else (forL s1_1 () (λk x s=>dF s2_2 k x s)).bind λa=>thenC a (λb=>some true) (λr=>some r)
def eP (s2_2:(List ByteArray)) (a:Nat) (b:ByteArray) (d:Unit):Option (Ctl (Unit) (Bool)) :=
  (idx s2_2 (a:Int)).bind λc=>bif (sNe b c)then some (.ret false)else some (.go ())
def fT (s1_1:(List ByteArray)) (s2_2:(List ByteArray)):Option (Bool) :=
  bif ((s1_1.length:Int) != (s2_2.length:Int))then some false else (forL s1_1 () (λk x s=>eP s2_2 k x s)).bind λa=>thenC a (λb=>some true) (λr=>some r)
def pq (a:Rect):Option (Int) :=
  ((aS a.X (-100000) 100000).bind λd=>bif d then some true else (aS a.Y (-100000) 100000).bind λe=>some e).bind λg=>bif g then some 1 else ((aS a.W 1 (w64 (100000-a.X))).bind λb=>bif b then some true else (aS a.H 1 (w64 (100000-a.Y))).bind λc=>some c).bind λf=>bif f then some 1 else some 0
def oH (c:Nat) (b:Rect) (d:Unit):Option (Ctl (Unit) (Int)) :=
  (pq b).bind λa=>bif (a != 0)then some (.ret a)else some (.go ())
def om (a:(List Rect)):Option (Int) :=
  bif (decide ((a.length:Int)>2000))then some 2 else (forL a () (λk x s=>oH k x s)).bind λb=>thenC b (λc=>some 0) (λr=>some r)
def jy (a:Int):Option Bool :=
  bif (decide (a<0))then none else bif (decide ((w64 (a-(w64 (0-0))))>0))then (zN (w64 (a-(w64 (0-0)))) 32).bind λ_=>some true else some false
def iK (c:Nat) (b:(List Rect)) (a:Int):Option (Ctl (Int) (Unit)) :=
  (bif (decide ((w64 (a+(b.length:Int)))<0))then none else some ()).bind λd=>some (.go (w64 (a+(b.length:Int))))
def iO (d:Nat) (c:(List Rect)) (b:(List Rect)):Option (Ctl ((List Rect)) (Unit)) :=
  (kv b c).bind λa=>some (.go a)
def fP (a:(List (List Rect))):Option ((List Rect)) :=
  (forL a 0 (λk x s=>iK k x s)).bind λb=>thenC b (λe=>(jy e).bind λf=>(forL a ([]:List Rect) (λk x s=>iO k x s)).bind λc=>thenC c (λd=>some d) (λ_=>none)) (λ_=>none)
def iE (c:(List Int)) (b:Int) (a:(List Int)×Int×Int):Option (Ctl ((List Int)×Int×Int) (Unit)) :=
  bif (decide (a.2.2<(((((c.length:Int)).toNat-(b).toNat):Nat):Int)))then (inN a.2.2 (((c.length:Int)).toNat-(b).toNat)).bind λ_=>(a.1[(((b).toNat)+(a.2.2).toNat)]?).bind λe=>(inN (w64 (a.2.2-1)) (((c.length:Int)).toNat-(b).toNat)).bind λ_=>(a.1[(((b).toNat)+((w64 (a.2.2-1))).toNat)]?).bind λf=>(bif (e != f)then (inN a.2.2 (((c.length:Int)).toNat-(b).toNat)).bind λ_=>(a.1[(((b).toNat)+(a.2.2).toNat)]?).bind λg=>(inR a.2.1 a.1).bind λ_=>(a.1[(0+(a.2.1).toNat)]?).bind λh=>some ((a.1.set (0+(a.2.1).toNat) g),(w64 (a.2.1+1)))else some (a.1,a.2.1)).bind λd=>some (.go (d.1,d.2,(w64 (a.2.2+1))))else some (.brk (a.1,a.2.1,a.2.2))
noncomputable def fw (b:(List Int)) (c:Int):Option (Ctl (Int) ((List Int))) :=
  bif (decide (c<(b.length:Int)))then (inR c b).bind λ_=>(b[(0+(c).toNat)]?).bind λd=>(inR (w64 (c-1)) b).bind λ_=>(b[(0+((w64 (c-1))).toNat)]?).bind λe=>bif (d==e)then (neL b).bind λ_=>(xX b c (b.length:Int)).bind λ_=>(dS (b,c,1) (λs=>iE b c s)).bind λf=>thenC f (λa=>(xX a.1 a.2.1 (a.1.length:Int)).bind λ_=>(xX (a.1.take ((a.2.1).toNat)++List.replicate (((a.1.length:Int)).toNat-(a.2.1).toNat) 0++a.1.drop (((a.2.1).toNat)+(((a.1.length:Int)).toNat-(a.2.1).toNat))) 0 a.2.1).bind λ_=>some (.ret (FI (a.1.take ((a.2.1).toNat)++List.replicate (((a.1.length:Int)).toNat-(a.2.1).toNat) 0++a.1.drop (((a.2.1).toNat)+(((a.1.length:Int)).toNat-(a.2.1).toNat))) 0 ((a.2.1).toNat)))) (λ_=>none)else some (.go (w64 (c+1)))else some (.brk c)
noncomputable def gJ (a:(List Int)):Option ((List Int)) :=
  bif (decide ((a.length:Int)<2))then some a else (dS 1 (λs=>fw a s)).bind λb=>thenC b (λc=>some a) (λr=>some r)
def xN (a:Run) (b:Run):Option (Int) :=
  some (w64 (a.f_from-b.f_from))
def di (c:Int) (a:(List Run)×Int):Option (Ctl ((List Run)×Int) (Unit)) :=
  (bif (decide (a.2>c))then (inR a.2 a.1).bind λ_=>(a.1[(0+(a.2).toNat)]?).bind λd=>(inR (w64 (a.2-1)) a.1).bind λ_=>(a.1[(0+((w64 (a.2-1))).toNat)]?).bind λe=>(xN d e).bind λg=>some (decide (g<0))else some false).bind λh=>bif h then (inR (w64 (a.2-1)) a.1).bind λ_=>(a.1[(0+((w64 (a.2-1))).toNat)]?).bind λb=>(inR a.2 a.1).bind λ_=>(a.1[(0+(a.2).toNat)]?).bind λf=>(inR a.2 a.1).bind λ_=>(a.1[(0+(a.2).toNat)]?).bind λi=>(inR (w64 (a.2-1)) (a.1.set (0+(a.2).toNat) b)).bind λ_=>((a.1.set (0+(a.2).toNat) b)[(0+((w64 (a.2-1))).toNat)]?).bind λj=>some (.go (((a.1.set (0+(a.2).toNat) b).set (0+((w64 (a.2-1))).toNat) f),(w64 (a.2-1))))else some (.brk (a.1,a.2))
noncomputable def bQ (c:Int) (b:Int) (a:(List Run)×Int):Option (Ctl ((List Run)×Int) (Unit)) :=
  bif (decide (a.2<c))then (dS (a.1,a.2) (λs=>di b s)).bind λd=>thenC d (λe=>some (.go (e.1,(w64 (a.2+1))))) (λ_=>none)else some (.brk (a.1,a.2))
noncomputable def bW (c:(List Run)) (a:Int) (b:Int):Option ((List Run)) :=
  (dS (c,(w64 (a+1))) (λs=>bQ b a s)).bind λd=>thenC d (λe=>some e.1) (λ_=>none)
noncomputable def cZ (b:Int) (a:Int) (c:(List Run)) (e:Int) (f:Unit):Option (Ctl (Unit) ((List Run))) :=
  bif (decide ((w64 (b-a))<=12))then (bW c a b).bind λd=>(fu d c).bind λ_=>some (.ret d)else bif (e==0)then none else none
noncomputable def dx (a:(List Run)) (b:Int) (c:Int) (d:Int):Option ((List Run)) :=
  (dS () (λs=>cZ c b a d s)).bind λe=>thenC e (λf=>some a) (λr=>some r)
noncomputable def bX (a:(List Run)):Option ((List Run)) :=
  (kI (IntKind.u64.wrap (a.length:Int))).bind λc=>(dx a 0 (a.length:Int) c).bind λb=>(fu b a).bind λ_=>some b
def rO (c:Int) (g:Nat) (a:Rect) (b:(List Run)):Option (Ctl ((List Run)) (Unit)) :=
  (bif (decide (a.Y<=c))then some (decide (c<(w64 (a.Y+a.H))))else some false).bind λe=>(bif e then (kv b ([(⟨a.X,(w64 (a.X+a.W))⟩:Run)]:List Run)).bind λd=>some d else some b).bind λf=>some (.go f)
def rW (i:Nat) (b:Run) (a:(List Run)):Option (Ctl ((List Run)) (Unit)) :=
  (bif (decide ((w64 ((a.length:Int)-1))>=0))then (inR (w64 ((a.length:Int)-1)) a).bind λ_=>(a[(0+((w64 ((a.length:Int)-1))).toNat)]?).bind λd=>some (decide (b.f_from<=d.f_to))else some false).bind λg=>(bif g then (inR (w64 ((a.length:Int)-1)) a).bind λ_=>(a[(0+((w64 ((a.length:Int)-1))).toNat)]?).bind λe=>(inR (w64 ((a.length:Int)-1)) a).bind λ_=>(a[(0+((w64 ((a.length:Int)-1))).toNat)]?).bind λf=>some (a.set (0+((w64 ((a.length:Int)-1))).toNat) (⟨f.f_from,(jI e.f_to b.f_to)⟩:Run))else (kv a ([b]:List Run)).bind λc=>some c).bind λh=>some (.go h)
noncomputable def qR (c:(List Rect)) (g:Int):Option ((List Run)) :=
  (forL c ([]:List Run) (λk x s=>rO g k x s)).bind λd=>thenC d (λb=>(bX b).bind λa=>(fu a b).bind λ_=>(forL a ([]:List Run) (λk x s=>rW k x s)).bind λe=>thenC e (λf=>some f) (λ_=>none)) (λ_=>none)
def rU (b:(List Run)) (d:Run) (a:Int):Option (Ctl (Int) (Unit)) :=
  (bif (decide (a<(b.length:Int)))then (idx b a).bind λe=>some (decide (e.f_to<=d.f_from))else some false).bind λc=>bif c then some (.go (w64 (a+1)))else some (.brk a)
def rT (b:(List Run)) (f:Run) (a:(List Run)×Int×Int):Option (Ctl ((List Run)×Int×Int) (Unit)) :=
  (bif (decide (a.2.1<(b.length:Int)))then (idx b a.2.1).bind λg=>some (decide (g.f_from<f.f_to))else some false).bind λd=>bif d then (idx b a.2.1).bind λh=>(bif (decide (h.f_from>a.2.2))then (idx b a.2.1).bind λi=>(kv a.1 ([(⟨a.2.2,i.f_from⟩:Run)]:List Run)).bind λc=>some c else some a.1).bind λe=>(idx b a.2.1).bind λj=>some (.go (e,(w64 (a.2.1+1)),(jI a.2.2 j.f_to)))else some (.brk (a.1,a.2.1,a.2.2))
noncomputable def oz (c:(List Run)) (j:Nat) (a:Run) (e:(List Run)×Int):Option (Ctl ((List Run)×Int) (Unit)) :=
  (dS e.2 (λs=>rU c a s)).bind λg=>thenC g (λd=>(dS (e.1,d,a.f_from) (λs=>rT c a s)).bind λh=>thenC h (λb=>(bif (decide (b.2.2<a.f_to))then (kv b.1 ([(⟨b.2.2,a.f_to⟩:Run)]:List Run)).bind λf=>some f else some b.1).bind λi=>some (.go (i,d))) (λ_=>none)) (λ_=>none)
noncomputable def uz (a:(List Run)) (b:(List Run)):Option ((List Run)) :=
  (forL a (([]:List Run),0) (λk x s=>oz b k x s)).bind λc=>thenC c (λd=>some d.1) (λ_=>none)
def gG (s2_2:(List Run)) (c:Nat) (a:Run) (d:Unit):Option (Ctl (Unit) (Bool)) :=
  (idx s2_2 (c:Int)).bind λb=>bif (!((a.f_from==b.f_from)&&((a.f_to==b.f_to)&&true)))then some (.ret false)else some (.go ())
def eT (s1_1:(List Run)) (s2_2:(List Run)):Option (Bool) :=
  bif ((s1_1.length:Int) != (s2_2.length:Int))then some false else (forL s1_1 () (λk x s=>gG s2_2 k x s)).bind λa=>thenC a (λb=>some true) (λr=>some r)
def pI (d:Nat) (a:Rect) (c:(List Int)):Option (Ctl ((List Int)) (Unit)) :=
  (kv c ([a.Y,(w64 (a.Y+a.H))]:List Int)).bind λb=>some (.go b)
def pK (b:(List Rect)×(List Run)×Int) (e:Int) (f:Nat) (a:Run) (d:(List Rect)):Option (Ctl ((List Rect)) (Unit)) :=
  (kv d ([(⟨a.f_from,b.2.2,(w64 (a.f_to-a.f_from)),(w64 (e-b.2.2))⟩:Rect)]:List Rect)).bind λc=>some (.go c)
noncomputable def mO (h:(List Int)) (e:(List Rect)) (f:(List Rect)) (d:Nat) (b:Int) (a:(List Rect)×(List Run)×Int):Option (Ctl ((List Rect)×(List Run)×Int) (Unit)) :=
  (bif (decide ((w64 ((d:Int)+1))<(h.length:Int)))then (qR e b).bind λi=>(qR f b).bind λj=>(uz i j).bind λl=>some l else some ([]:List Run)).bind λc=>(eT a.2.1 c).bind λm=>bif m then some (.go (a.1,a.2.1,a.2.2))else (forL a.2.1 a.1 (λk x s=>pK a b k x s)).bind λg=>thenC g (λn=>some (.go (n,c,b))) (λ_=>none)
noncomputable def qj (a:(List Rect)) (b:(List Rect)):Option ((List Rect)) :=
  (fP ([a,b]:List (List Rect))).bind λh=>(forL h ([]:List Int) (λk x s=>pI k x s)).bind λf=>thenC f (λe=>(dw e).bind λc=>(fu c e).bind λ_=>(gJ c).bind λd=>(forL d (([]:List Rect),([]:List Run),0) (λk x s=>mO d a b k x s)).bind λg=>thenC g (λi=>some i.1) (λ_=>none)) (λ_=>none)
def vT (c:Nat) (a:Rect) (b:Int):Option (Ctl (Int) (Unit)) :=
  some (.go (w64 (b+(w64 (a.W*a.H)))))
def xx (a:(List Rect)):Option (Int) :=
  (forL a 0 (λk x s=>vT k x s)).bind λb=>thenC b (λc=>some c) (λ_=>none)
noncomputable def uu (a:(List Rect)):Option (Int×Int) :=
  (om a).bind λb=>bif (b != 0)then some (0,b)else (qj a ([]:List Rect)).bind λc=>(xx c).bind λd=>some (d,0)
def En (a:Int):Option (Bool) :=
  (bif (decide (a>=0))then some (decide (a<=4000))else some false).bind λb=>some b
def mF (c:(List Int)) (a:Nat) (b:Int) (g:Unit):Option (Ctl (Unit) (Int)) :=
  (En b).bind λd=>bif (!d)then some (.ret 1)else (bif (decide ((a:Int)>0))then (idx c (w64 ((a:Int)-1))).bind λf=>some (decide (b<=f))else some false).bind λe=>bif e then some (.ret 7)else some (.go ())
def lQ (a:(List Int)):Option (Int) :=
  bif (decide ((a.length:Int)>100))then some 2 else (forL a () (λk x s=>mF a k x s)).bind λb=>thenC b (λc=>some 0) (λr=>some r)
noncomputable def lq (c:(List ByteArray)) (a:Nat) (b:ByteArray) (g:Unit):Option (Ctl (Unit) (Int)) :=
  (dX b).bind λd=>bif (!d)then some (.ret 5)else (bif (decide ((a:Int)>0))then (idx c (w64 ((a:Int)-1))).bind λf=>some (sLe b f)else some false).bind λe=>bif e then some (.ret 7)else some (.go ())
noncomputable def lD (a:(List ByteArray)):Option (Int) :=
  (forL a () (λk x s=>lq a k x s)).bind λb=>thenC b (λc=>some 0) (λr=>some r)
noncomputable def lh (a:(List ByteArray)):Option (Int) :=
  bif (decide ((a.length:Int)>20))then some 2 else (lD a).bind λb=>some b
noncomputable def kC (a:Entry):Option (Int) :=
  ((dX a.Key).bind λk=>bif (!k)then some true else (dX a.Item).bind λl=>some (!l)).bind λo=>bif o then some 5 else ((aS a.Version 0 1000000).bind λc=>bif c then some true else (aS a.First 0 a.Last).bind λd=>bif d then some true else bif (decide (a.Last>4000))then some true else (aS a.Every 1 400).bind λe=>bif e then some true else (aS a.Days 1 127).bind λf=>some f).bind λm=>bif m then some 1 else (lQ a.Except).bind λb=>bif (b != 0)then some b else ((aS a.From 0 1439).bind λg=>bif g then some true else (aS a.To 0 1439).bind λh=>bif h then some true else (aS a.Prio 0 9).bind λi=>some i).bind λn=>bif n then some 1 else (lh a.Tags).bind λj=>some j
noncomputable def iy (d:(List Entry)) (a:Nat) (c:Entry) (g:Unit):Option (Ctl (Unit) (Int)) :=
  (kC c).bind λb=>bif (b != 0)then some (.ret b)else (bif (decide ((a:Int)>0))then (idx d (w64 ((a:Int)-1))).bind λf=>some (sLe c.Key f.Key)else some false).bind λe=>bif e then some (.ret 7)else some (.go ())
noncomputable def jB (a:(List Entry)):Option (Int) :=
  bif (decide ((a.length:Int)>200))then some 2 else (forL a () (λk x s=>iy a k x s)).bind λb=>thenC b (λc=>some 0) (λr=>some r)
def lU (a:Window):Option (Int) :=
  ((aS a.From 0 a.To).bind λb=>bif b then some true else some (decide (a.To>345686400000))).bind λc=>bif c then some 1 else bif (decide ((w64 (a.To-a.From))>34560000000))then some 2 else some 0
def cmp_Less_int (a:Int) (b:Int):Option (Bool) :=
  ((cmp_isNaN_int a).bind λc=>bif c then (cmp_isNaN_int b).bind λd=>bif (!d)then some true else some (decide (a<b))else some (decide (a<b))).bind λe=>some e
def kL (a:Int):Option (Bool) :=
  some (a != a)
def gp (e:(List Int)) (d:Int) (a:Int×Int):Option (Ctl (Int×Int) (Unit)) :=
  bif (decide (a.1<a.2))then (LH .u64 (IntKind.u64.wrap (w64 (a.1+a.2))) 1).bind λb=>(idx e (w64 b)).bind λf=>(cmp_Less_int f d).bind λc=>bif c then some (.go ((w64 ((w64 b)+1)),a.2))else some (.go (a.1,(w64 b)))else some (.brk (a.1,a.2))
noncomputable def fE (a:(List Int)) (c:Int):Option (Int×Bool) :=
  (dS (0,(a.length:Int)) (λs=>gp a c s)).bind λd=>thenC d (λb=>(bif (decide (b.1<(a.length:Int)))then (idx a b.1).bind λh=>bif (h==c)then some true else (idx a b.1).bind λi=>(kL i).bind λe=>bif e then (kL c).bind λf=>some f else some false else some false).bind λg=>some (b.1,g)) (λ_=>none)
noncomputable def oW (a:Entry) (b:Int):Option (Bool) :=
  ((aS b a.First a.Last).bind λf=>bif f then some true else (Nk .i64 (w64 (b-a.First)) a.Every).bind λd=>bif (d != 0)then some true else (shlO .i64 1 (b.tmod 7)).bind λc=>some ((EF .i64 a.Days c)==0)).bind λg=>bif g then some false else (fE a.Except b).bind λe=>some (!e.2)
def qF (a:Entry) (c:Int) (b:Int):Option (Window) :=
  (bif (decide ((w64 (a.To-a.From))<=0))then some (w64 ((w64 (a.To-a.From))+1440))else some (w64 (a.To-a.From))).bind λd=>some (⟨(w64 ((w64 ((w64 ((w64 (b*1440))+a.From))-c))*60000)),(w64 ((w64 ((w64 ((w64 ((w64 (b*1440))+a.From))-c))*60000))+(w64 (d*60000))))⟩:Window)
noncomputable def lJ (d:Window) (e:Int) (b:Entry) (a:(List Window)×Int):Option (Ctl ((List Window)×Int) (Unit)) :=
  bif (decide (a.2<=(K5 (w64 ((w64 ((w64 (d.To+(w64 (e*60000)))).tdiv 86400000))+1)) b.Last)))then (oW b a.2).bind λg=>bif (!g)then some (.go (a.1,(w64 (a.2+1))))else (qF b e a.2).bind λc=>(bif (decide (c.From<d.To))then some (decide (c.To>d.From))else some false).bind λh=>(bif h then (kv a.1 ([c]:List Window)).bind λf=>some f else some a.1).bind λi=>some (.go (i,(w64 (a.2+1))))else some (.brk (a.1,a.2))
noncomputable def oD (b:Entry) (c:Int) (a:Window):Option ((List Window)) :=
  (bif b.Gone then some true else some (decide (a.From>=a.To))).bind λf=>bif f then some ([]:(List Window))else (dS (([]:List Window),(jI (w64 ((w64 ((w64 (a.From+(w64 (c*60000)))).tdiv 86400000))-2)) b.First)) (λs=>lJ a c b s)).bind λd=>thenC d (λe=>some e.1) (λ_=>none)
def y8 (a:Window) (b:Window):Option (Window) :=
  some (⟨(jI a.From b.From),(K5 a.To b.To)⟩:Window)
def nY (e:Window) (a:Nat) (g:Nat) (b:(List Window)):Option (Ctl ((List Window)) (Unit)) :=
  (inR (a:Int) b).bind λ_=>(b[(0+((a:Int)).toNat)]?).bind λc=>(y8 c e).bind λd=>(inR (a:Int) b).bind λ_=>(b[(0+((a:Int)).toNat)]?).bind λf=>some (.go (b.set (0+((a:Int)).toNat) d))
noncomputable def oM (b:Entry) (f:Int) (a:Window):Option ((List Window)×Int) :=
  (jB ([b]:List Entry)).bind λe=>bif (e != 0)then some (([]:(List Window)),e)else (aS f (-1440) 1440).bind λh=>bif h then some (([]:(List Window)),1)else (lU a).bind λc=>bif (c != 0)then some (([]:(List Window)),c)else (oD b f a).bind λd=>(forL (List.range ((d.length:Int)).toNat) d (λk x s=>nY a k x s)).bind λg=>thenC g (λi=>some (i,0)) (λ_=>none)
def rV (a:Window):Option (Bool) :=
  (bif (decide (a.From>=0))then bif (decide (a.From<a.To))then some (decide (a.To<=345686400000))else some false else some false).bind λb=>some b
noncomputable def lT (a:(List ByteArray)):Option (Int) :=
  bif (decide ((a.length:Int)>20))then some 2 else (lD a).bind λb=>some b
noncomputable def gL (d:(List Campaign)) (b:Nat) (a:Campaign) (o:Unit):Option (Ctl (Unit) (Int)) :=
  ((dX a.Key).bind λe=>bif (!e)then some true else bif (sNe a.Class (⟨#[]⟩:ByteArray))then (dX a.Class).bind λf=>some (!f)else some false).bind λk=>bif k then some (.ret 5)else (bif (decide ((b:Int)>0))then (idx d (w64 ((b:Int)-1))).bind λn=>some (sLe a.Key n.Key)else some false).bind λl=>bif l then some (.ret 7)else ((rV a.Time).bind λg=>bif (!g)then some true else (aS a.Goal 0 1000000).bind λh=>bif h then some true else (aS a.Most 0 1000000).bind λi=>bif i then some true else (aS a.Cents 0 1000000000).bind λj=>some j).bind λm=>bif m then some (.ret 1)else (lT a.Tags).bind λc=>bif (c != 0)then some (.ret c)else some (.go ())
noncomputable def jl (a:(List Campaign)):Option (Int) :=
  bif (decide ((a.length:Int)>30))then some 2 else (forL a () (λk x s=>gL a k x s)).bind λb=>thenC b (λc=>some 0) (λr=>some r)
def xH (a:Campaign) (b:Int):Option (Int) :=
  bif (decide (b<a.Time.From))then some 0 else bif (decide (b>=a.Time.To))then some a.Goal else (Lv .i64 (w64 (a.Goal*(w64 (b-a.Time.From)))) (w64 (a.Time.To-a.Time.From))).bind λc=>some c
noncomputable def uF (b:Campaign) (a:Int):Option (Int×Int) :=
  (jl ([b]:List Campaign)).bind λc=>bif (c != 0)then some (0,c)else (cK a).bind λe=>bif (!e)then some (0,1)else (xH b a).bind λd=>some (d,0)
noncomputable def uq (a:(List Beat)) (c:ByteArray) (b:Int) (f:Bool):Option (Int×Int) :=
  (gy a).bind λe=>bif (e != 0)then some (0,e)else (dX c).bind λi=>bif (!i)then some (0,5)else (cK b).bind λg=>bif (!g)then some (0,1)else (lY a c f).bind λh=>(jO h b).bind λd=>some (d.1,d.2)
noncomputable def uf (c:(List Beat)) (d:ByteArray) (b:Int):Option (Int×Int) :=
  (uq c d b false).bind λa=>some (a.1,a.2)
noncomputable def kQ (b:Alert) (c:Nat) (a:ByteArray) (g:Unit):Option (Ctl (Unit) (Int)) :=
  (dX a).bind λd=>bif (!d)then some (.ret 5)else (bif (decide ((c:Int)>0))then (idx b.Refs (w64 ((c:Int)-1))).bind λf=>some (sLe a f)else some false).bind λe=>bif e then some (.ret 7)else bif (sEq a b.Id)then some (.ret 14)else some (.go ())
noncomputable def nK (a:Alert):Option (Int) :=
  bif (decide ((a.Refs.length:Int)>20))then some 2 else (forL a.Refs () (λk x s=>kQ a k x s)).bind λb=>thenC b (λc=>bif (!((a.Kind==1)==((a.Refs.length:Int)==0)))then some 3 else some 0) (λr=>some r)
def lZ (x0:ByteArray):Option (Bool) :=
  OW x0
def strings_Contains (x0:ByteArray) (x1:ByteArray):Option (Bool) :=
  EH x0 x1
def rE (b:ByteArray) (a:Int):Option (Ctl (Int) (Bool)) :=
  bif (decide (a<(b.size:Int)))then ((z8 b a).bind λc=>bif (decide ((c.toNat:Int)<32))then some true else (z8 b a).bind λd=>some ((d.toNat:Int)==127)).bind λe=>bif e then some (.ret false)else some (.go (w64 (a+1)))else some (.brk a)
noncomputable def tX (a:ByteArray):Option (Bool) :=
  (dS 0 (λs=>rE a s)).bind λb=>thenC b (λg=>((lZ a).bind λc=>bif c then (pJ a (⟨#[32]⟩:ByteArray)).bind λd=>bif (sEq d a)then (strings_Contains a (⟨#[32,32]⟩:ByteArray)).bind λe=>some (!e)else some false else some false).bind λf=>some f) (λr=>some r)
def ma (c:Nat) (b:Rect) (d:Unit):Option (Ctl (Unit) (Int)) :=
  (pq b).bind λa=>bif (a != 0)then some (.ret a)else some (.go ())
noncomputable def mE (a:Alert):Option (Int) :=
  ((dX a.Id).bind λi=>bif (!i)then some true else (dX a.Sender).bind λj=>some (!j)).bind λm=>bif m then some 5 else (aS a.Kind 1 3).bind λd=>bif d then some 4 else (nK a).bind λb=>bif (b != 0)then some b else ((cK a.At).bind λe=>bif (!e)then some true else (aS a.Until (w64 (a.At+1)) (w64 (a.At+2592000000))).bind λf=>bif f then some true else (aS a.Weight 1 9).bind λg=>some g).bind λl=>bif l then some 1 else bif (decide ((a.Areas.length:Int)>20))then some 2 else (forL a.Areas () (λk x s=>ma k x s)).bind λc=>thenC c (λo=>bif (!((a.Kind==3)==((a.Areas.length:Int)==0)))then some 3 else bif (decide ((a.Text.size:Int)>500))then some 2 else ((tX a.Text).bind λh=>bif (!h)then some true else bif (sEq a.Text (⟨#[]⟩:ByteArray))then some (!(a.Kind==3))else some false).bind λn=>bif n then some 3 else some 0) (λr=>some r)
def tH (a:Alert) (b:Alert):Option (Int) :=
  (cmp_Compare_int a.At b.At).bind λc=>(strings_Compare a.Id b.Id).bind λd=>(kP ([c,d]:List Int)).bind λe=>some e
noncomputable def jV (d:(List Alert)) (a:Nat) (c:Alert) (h:Unit):Option (Ctl (Unit) (Int)) :=
  (mE c).bind λb=>bif (b != 0)then some (.ret b)else (bif (decide ((a:Int)>0))then (idx d (w64 ((a:Int)-1))).bind λg=>(tH g c).bind λe=>some (decide (e>=0))else some false).bind λf=>bif f then some (.ret 7)else some (.go ())
def lV (c:Nat) (b:Alert) (a:(List (ByteArray×Bool))):Option (Ctl ((List (ByteArray×Bool))) (Int)) :=
  bif ((Oo eqS a b.Id).getD false)then some (.ret 6)else some (.go (R6 eqS a b.Id true))
noncomputable def lL (a:(List Alert)):Option (Int) :=
  bif (decide ((a.length:Int)>300))then some 2 else (forL a () (λk x s=>jV a k x s)).bind λb=>thenC b (λe=>(forL a ([]:List (ByteArray×Bool)) (λk x s=>lV k x s)).bind λc=>thenC c (λd=>some 0) (λr=>some r)) (λr=>some r)
noncomputable def kH (c:(List Post)) (b:Nat) (a:Post) (j:Unit):Option (Ctl (Unit) (Int)) :=
  (dX a.Player).bind λd=>bif (!d)then some (.ret 5)else ((aS a.X (-100000) 100000).bind λe=>bif e then some true else (aS a.Y (-100000) 100000).bind λf=>some f).bind λg=>bif g then some (.ret 1)else (bif (decide ((b:Int)>0))then (idx c (w64 ((b:Int)-1))).bind λi=>some (sLe a.Player i.Player)else some false).bind λh=>bif h then some (.ret 7)else some (.go ())
noncomputable def mR (a:(List Post)):Option (Int) :=
  bif (decide ((a.length:Int)>500))then some 2 else (forL a () (λk x s=>kH a k x s)).bind λb=>thenC b (λc=>some 0) (λr=>some r)
noncomputable def nM (b:(List Alert)) (c:(List Post)):Option (Int) :=
  (lL b).bind λa=>bif (a != 0)then some a else (mR c).bind λd=>some d
def uO (a:Rect) (b:Post):Option (Bool) :=
  (bif (decide (a.X<=b.X))then bif (decide (b.X<(w64 (a.X+a.W))))then bif (decide (a.Y<=b.Y))then some (decide (b.Y<(w64 (a.Y+a.H))))else some false else some false else some false).bind λc=>some c
def gq (a:Rect->Option Bool) (b:Nat) (d:Rect) (e:Unit):Option (Ctl (Unit) (Int)) :=
  (a d).bind λc=>bif c then some (.ret (b:Int))else some (.go ())
def iQ (c:(List Rect)) (a:Rect->Option Bool):Option (Int) :=
  (forL c () (λk x s=>gq a k x s)).bind λb=>thenC b (λd=>some (-1)) (λr=>some r)
def gz (c:(List Rect)) (a:Rect->Option Bool):Option (Bool) :=
  (iQ c a).bind λb=>some (decide (b>=0))
def tL (a:Alert) (b:Post):Option (Bool) :=
  (gz a.Areas (λx0=>uO x0 b)).bind λc=>some c
noncomputable def qo (a:Alert) (b:Post):Option (Bool×Int) :=
  (nM ([a]:List Alert) ([b]:List Post)).bind λc=>bif (c != 0)then some (false,c)else (tL a b).bind λd=>some (d,0)
def zt (b:Nat) (a:Int) (c:Unit):Option (Ctl (Unit) (Int)) :=
  bif (a != 0)then some (.ret a)else some (.go ())
def BC (a:(List Int)):Option (Int) :=
  (forL a () (λk x s=>zt k x s)).bind λb=>thenC b (λc=>some 0) (λr=>some r)
noncomputable def sI  : Option (Bool) :=
  (uu ([(⟨0,0,2,2⟩:Rect),(⟨1,1,2,2⟩:Rect)]:List Rect)).bind λa=>(oM (⟨(⟨#[97]⟩:ByteArray),(⟨#[98]⟩:ByteArray),0,0,0,1,127,([]:List Int),1,2,0,([]:List ByteArray),false⟩:Entry) 0 (⟨0,86400000⟩:Window)).bind λc=>(uF (⟨(⟨#[97]⟩:ByteArray),(⟨#[]⟩:ByteArray),(⟨0,100⟩:Window),([]:List ByteArray),10,0,0⟩:Campaign) 50).bind λd=>(uf ([(⟨(⟨#[112]⟩:ByteArray),0,100⟩:Beat),(⟨(⟨#[112]⟩:ByteArray),1000,1300⟩:Beat)]:List Beat) (⟨#[112]⟩:ByteArray) 700).bind λe=>(qo (⟨(⟨#[97]⟩:ByteArray),(⟨#[115]⟩:ByteArray),1,([]:List ByteArray),0,5,1,([(⟨0,0,2,2⟩:Rect)]:List Rect),(⟨#[120]⟩:ByteArray)⟩:Alert) (⟨(⟨#[112]⟩:ByteArray),1,1⟩:Post)).bind λb=>((BC ([a.2,c.2,d.2,e.2,b.2]:List Int)).bind λf=>bif (f==0)then bif (a.1==7)then bif ((c.1.length:Int)==1)then bif (d.1==5)then bif (e.1==500)then some b.1 else some false else some false else some false else some false else some false).bind λg=>some g
noncomputable def qE (e:(List Int)):Option (Bool) :=
  (jr (⟨e,0⟩:Stream) 5).bind λa=>(iT a.2).bind λd=>(ja d.2 5).bind λb=>(jr (⟨e,0⟩:Stream) 5).bind λf=>(iT f.2).bind λg=>(ja g.2 5).bind λm=>(qi a.1 ([]:List Log_)).bind λh=>(jC h.1).bind λn=>(fu n h.1).bind λ_=>(tZ a.1 d.1).bind λi=>(ji i.1).bind λo=>(fu o i.1).bind λ_=>(rG b.1 0).bind λj=>(iW j.1).bind λp=>(fu p j.1).bind λ_=>(qg b.1 b.1 5).bind λk=>(iZ k.1).bind λq=>(fu q k.1).bind λ_=>(vZ a.1 0).bind λc=>(fQ c.1).bind λr=>(vO a.1).bind λl=>(bif (l.2==0)then some (decide ((a.1.length:Int)>0))else some false).bind λx=>(bif x then (idx a.1 0).bind λz=>(pz l.1 (a.1.length:Int) 0 z c.1).bind λA=>some ()else some ()).bind λB=>((fq a.1 f.1).bind λs=>bif s then (d9 d.1 g.1).bind λt=>bif t then (ek b.1 m.1).bind λu=>bif u then (fT c.1 r).bind λv=>bif v then (sI).bind λw=>some w else some false else some false else some false else some false).bind λy=>some y
end Go.Proofs.YtnfojnnfidnikaeGreatDoor.Law

