/-
  The functions of the program, as plain functions over data (written by a program of ours).
-/
import Derived.Test.YtkjlhdminmpmkaaGreatDoorEng5
open Go Go.Eng
namespace Go.Proofs.YtkjlhdminmpmkaaGreatDoor.Law
set_option maxRecDepth 100000
set_option linter.unusedVariables false
set_option maxHeartbeats 1000000
structure Stream where
  L:(List Int)
  f_at:Int
def Stream.enc (s:Stream):List D:=[dl eI s.L,.int .i64 s.f_at]

structure Window where
  From:Int
  To:Int
def Window.enc (s:Window):List D:=[.int .i64 s.From,.int .i64 s.To]

structure Spot where
  Key:ByteArray
  Time:Window
  Room:Int
  Tags:(List ByteArray)
def Spot.enc (s:Spot):List D:=[.str s.Key,.int .i64 s.Time.From,.int .i64 s.Time.To,.int .i64 s.Room,dl eS s.Tags]
abbrev Spot.v (s:Spot):List V:=[(vS s.Key),(vI s.Time.From),(vI s.Time.To),(vI s.Room),(vL eS s.Tags)]

structure Campaign where
  Key:ByteArray
  Class:ByteArray
  Time:Window
  Tags:(List ByteArray)
  Goal:Int
  Most:Int
  Cents:Int
def Campaign.enc (s:Campaign):List D:=[.str s.Key,.str s.Class,.int .i64 s.Time.From,.int .i64 s.Time.To,dl eS s.Tags,.int .i64 s.Goal,.int .i64 s.Most,.int .i64 s.Cents]
abbrev Campaign.v (s:Campaign):List V:=[(vS s.Key),(vS s.Class),(vI s.Time.From),(vI s.Time.To),(vL eS s.Tags),(vI s.Goal),(vI s.Most),(vI s.Cents)]

structure Share where
  Campaign:ByteArray
  Spot:ByteArray
  Many:Int
def Share.enc (s:Share):List D:=[.str s.Campaign,.str s.Spot,.int .i64 s.Many]
abbrev Share.v (s:Share):List V:=[(vS s.Campaign),(vS s.Spot),(vI s.Many)]

structure Web where
  f_can:(List (List Int))
  f_camps:Int
def Web.enc (s:Web):List D:=[dl (eL eI) s.f_can,.int .i64 s.f_camps]

structure Rect where
  X:Int
  Y:Int
  W:Int
  H:Int
def Rect.enc (s:Rect):List D:=[.int .i64 s.X,.int .i64 s.Y,.int .i64 s.W,.int .i64 s.H]
abbrev Rect.v (s:Rect):List V:=[(vI s.X),(vI s.Y),(vI s.W),(vI s.H)]

structure Run where
  f_from:Int
  f_to:Int
def Run.enc (s:Run):List D:=[.int .i64 s.f_from,.int .i64 s.f_to]

structure Beat where
  Player:ByteArray
  At:Int
  Clock:Int
def Beat.enc (s:Beat):List D:=[.str s.Player,.int .i64 s.At,.int .i64 s.Clock]
abbrev Beat.v (s:Beat):List V:=[(vS s.Player),(vI s.At),(vI s.Clock)]

structure Beat_ where
  f_from:Int
  f_to:Int
def Beat_.enc (s:Beat_):List D:=[.int .i64 s.f_from,.int .i64 s.f_to]

structure Entry where
  Key:ByteArray
  Item:ByteArray
  Version:Int
  First:Int
  Last:Int
  Every:Int
  Days:Int
  Except:(List Int)
  From:Int
  To:Int
  Prio:Int
  Tags:(List ByteArray)
  Gone:Bool
def Entry.enc (s:Entry):List D:=[.str s.Key,.str s.Item,.int .i64 s.Version,.int .i64 s.First,.int .i64 s.Last,.int .i64 s.Every,.int .i64 s.Days,dl eI s.Except,.int .i64 s.From,.int .i64 s.To,.int .i64 s.Prio,dl eS s.Tags,.bool s.Gone]
abbrev Entry.v (s:Entry):List V:=[(vS s.Key),(vS s.Item),(vI s.Version),(vI s.First),(vI s.Last),(vI s.Every),(vI s.Days),(vL eI s.Except),(vI s.From),(vI s.To),(vI s.Prio),(vL eS s.Tags),(vB s.Gone)]

structure Log_ where
  Player:ByteArray
  Item:ByteArray
  No:Int
  Clock:Int
  Long:Int
  Sum:ByteArray
def Log_.enc (s:Log_):List D:=[.str s.Player,.str s.Item,.int .i64 s.No,.int .i64 s.Clock,.int .i64 s.Long,.str s.Sum]
abbrev Log_.v (s:Log_):List V:=[(vS s.Player),(vS s.Item),(vI s.No),(vI s.Clock),(vI s.Long),(vS s.Sum)]

structure Play where
  Player:ByteArray
  Item:ByteArray
  At:Int
  Long:Int
def Play.enc (s:Play):List D:=[.str s.Player,.str s.Item,.int .i64 s.At,.int .i64 s.Long]
abbrev Play.v (s:Play):List V:=[(vS s.Player),(vS s.Item),(vI s.At),(vI s.Long)]

structure Placed where
  f_i:Int
  f_at:Int
def Placed.enc (s:Placed):List D:=[.int .i64 s.f_i,.int .i64 s.f_at]

structure Pace where
  Campaign:ByteArray
  Due:Int
  Done:Int
def Pace.enc (s:Pace):List D:=[.str s.Campaign,.int .i64 s.Due,.int .i64 s.Done]
abbrev Pace.v (s:Pace):List V:=[(vS s.Campaign),(vI s.Due),(vI s.Done)]

def rY (d:Int) (a:Int):Option (Int) :=
  bif (decide (a<1))then some 0 else (JO .i64 d a).bind λb=>(bif (decide (b<0))then some (w64 (b+a))else some b).bind λc=>some c
def jB (a:Stream) (b:Int):Option (Int×Stream) :=
  bif ((a.L.length:Int)==0)then (rY (w64 ((w64 (a.f_at+1))*7919)) b).bind λg=>some (g,(⟨a.L,(w64 (a.f_at+1))⟩:Stream))else (JO .i64 (w64 ((w64 (a.f_at+1))-1)) (a.L.length:Int)).bind λc=>(FK .i64 (w64 ((w64 (a.f_at+1))-1)) (a.L.length:Int)).bind λd=>(idx a.L c).bind λh=>(rY h 1073741824).bind λe=>(rY (w64 (e+(w64 (d*(w64 (7919+c)))))) b).bind λf=>some (f,(⟨a.L,(w64 (a.f_at+1))⟩:Stream))
def gY (c:Stream) (b:Int):Option (Bool×Stream) :=
  (jB c b).bind λa=>some ((a.1==0),a.2)
def eX (c:Stream) (a:(List Int)):Option (Int×Stream) :=
  (jB c (a.length:Int)).bind λb=>(idx a b.1).bind λd=>some (d,b.2)
def gM (f:Nat) (e:ByteArray) (a:(List ByteArray)×(List Int)×Int):Option (Ctl ((List ByteArray)×(List Int)×Int) (Unit)) :=
  (gY (⟨a.2.1,a.2.2⟩:Stream) 2).bind λb=>(bif b.1 then (iJ a.1 ([e]:List ByteArray)).bind λc=>some c else some a.1).bind λd=>some (.go (d,b.2.L,b.2.f_at))
def dM (e:Nat) (i:ByteArray) (b:(List Spot)×(List Int)×Int):Option (Ctl ((List Spot)×(List Int)×Int) (Unit)) :=
  (gY (⟨b.2.1,b.2.2⟩:Stream) 4).bind λa=>bif a.1 then some (.go (b.1,a.2.L,a.2.f_at))else (eX a.2 ([5,10,10]:List Int)).bind λf=>(eX f.2 ([0,1,2,3,5]:List Int)).bind λc=>(forL ([(⟨#[99,105,116,121]⟩:ByteArray),(⟨#[109,97,108,108]⟩:ByteArray)]:List ByteArray) (([]:List ByteArray),c.2.L,c.2.f_at) (λk x s=>gM k x s)).bind λh=>thenC h (λd=>(iJ b.1 ([(⟨i,(⟨(w64 (10*(e:Int))),(w64 ((w64 (10*(e:Int)))+f.1))⟩:Window),c.1,d.1⟩:Spot)]:List Spot)).bind λg=>some (.go (g,d.2.1,d.2.2))) (λ_=>none)
def eU (b:Stream):Option ((List Spot)×Stream) :=
  (forL ([(⟨#[115,97]⟩:ByteArray),(⟨#[115,98]⟩:ByteArray),(⟨#[115,99]⟩:ByteArray),(⟨#[115,100]⟩:ByteArray),(⟨#[115,101]⟩:ByteArray)]:List ByteArray) (([]:List Spot),b.L,b.f_at) (λk x s=>dM k x s)).bind λc=>thenC c (λa=>some (a.1,(⟨a.2.1,a.2.2⟩:Stream))) (λ_=>none)
def mF (c:Stream) (a:(List ByteArray)):Option (ByteArray×Stream) :=
  (jB c (a.length:Int)).bind λb=>(idx a b.1).bind λd=>some (d,b.2)
def gQ (f:Nat) (e:ByteArray) (a:(List ByteArray)×(List Int)×Int):Option (Ctl ((List ByteArray)×(List Int)×Int) (Unit)) :=
  (gY (⟨a.2.1,a.2.2⟩:Stream) 4).bind λb=>(bif b.1 then (iJ a.1 ([e]:List ByteArray)).bind λc=>some c else some a.1).bind λd=>some (.go (d,b.2.L,b.2.f_at))
def eB (n:Nat) (m:ByteArray) (b:(List Campaign)×(List Int)×Int):Option (Ctl ((List Campaign)×(List Int)×Int) (Unit)) :=
  (gY (⟨b.2.1,b.2.2⟩:Stream) 5).bind λa=>bif a.1 then some (.go (b.1,a.2.L,a.2.f_at))else (mF a.2 ([(⟨#[]⟩:ByteArray),(⟨#[]⟩:ByteArray),(⟨#[99,97,114,115]⟩:ByteArray),(⟨#[102,111,111,100]⟩:ByteArray)]:List ByteArray)).bind λe=>(eX e.2 ([0,0,10,20]:List Int)).bind λf=>(eX f.2 ([30,50,60,100]:List Int)).bind λg=>(eX g.2 ([0,1,2,3,4,6]:List Int)).bind λh=>(eX h.2 ([0,1,2,3,9]:List Int)).bind λi=>(eX i.2 ([0,500,1000,1500]:List Int)).bind λc=>(forL ([(⟨#[99,105,116,121]⟩:ByteArray),(⟨#[109,97,108,108]⟩:ByteArray)]:List ByteArray) (([]:List ByteArray),c.2.L,c.2.f_at) (λk x s=>gQ k x s)).bind λl=>thenC l (λd=>(iJ b.1 ([(⟨m,e.1,(⟨f.1,g.1⟩:Window),d.1,h.1,i.1,c.1⟩:Campaign)]:List Campaign)).bind λj=>some (.go (j,d.2.1,d.2.2))) (λ_=>none)
def dZ (b:Stream) (c:Int):Option ((List Campaign)×Stream) :=
  (MZ ([(⟨#[99,97]⟩:ByteArray),(⟨#[99,98]⟩:ByteArray),(⟨#[99,99]⟩:ByteArray),(⟨#[99,100]⟩:ByteArray)]:List ByteArray) 0 c).bind λe=>(forL e (([]:List Campaign),b.L,b.f_at) (λk x s=>eB k x s)).bind λd=>thenC d (λa=>some (a.1,(⟨a.2.1,a.2.2⟩:Stream))) (λ_=>none)
def jY (c:ByteArray) (b:Int):Option (Ctl (Int) (Bool)) :=
  bif (decide (b<(c.size:Int)))then (zF c b).bind λa=>(bif (decide ((a.toNat:Int)>=97))then bif (decide ((a.toNat:Int)<=122))then some false else bif (decide (b>0))then bif (decide ((a.toNat:Int)>=48))then bif (decide ((a.toNat:Int)<=57))then some false else bif ((a.toNat:Int)==45)then some false else some (!((a.toNat:Int)==95))else bif ((a.toNat:Int)==45)then some false else some (!((a.toNat:Int)==95))else some true else bif (decide (b>0))then bif (decide ((a.toNat:Int)>=48))then bif (decide ((a.toNat:Int)<=57))then some false else bif ((a.toNat:Int)==45)then some false else some (!((a.toNat:Int)==95))else bif ((a.toNat:Int)==45)then some false else some (!((a.toNat:Int)==95))else some true).bind λd=>bif d then some (.ret false)else some (.go (w64 (b+1)))else some (.brk b)
noncomputable def fO (a:ByteArray):Option (Bool) :=
  (fZ 0 (λs=>jY a s)).bind λb=>thenC b (λd=>(bif (sNe a (⟨#[]⟩:ByteArray))then some (decide ((a.size:Int)<=40))else some false).bind λc=>some c) (λr=>some r)
def jy (a:Window):Option (Bool) :=
  (bif (decide (a.From>=0))then bif (decide (a.From<a.To))then some (decide (a.To<=345686400000))else some false else some false).bind λb=>some b
def aX (a:Int) (c:Int) (b:Int):Option (Bool) :=
  (bif (decide (a<c))then some true else some (decide (a>b))).bind λd=>some d
noncomputable def iB (c:(List ByteArray)) (a:Nat) (b:ByteArray) (g:Unit):Option (Ctl (Unit) (Int)) :=
  (fO b).bind λd=>bif (!d)then some (.ret 5)else (bif (decide ((a:Int)>0))then (idx c (w64 ((a:Int)-1))).bind λf=>some (sLe b f)else some false).bind λe=>bif e then some (.ret 7)else some (.go ())
noncomputable def iX (a:(List ByteArray)):Option (Int) :=
  (forL a () (λk x s=>iB a k x s)).bind λb=>thenC b (λc=>some 0) (λr=>some r)
noncomputable def fI (a:(List ByteArray)):Option (Int) :=
  bif (decide ((a.length:Int)>20))then some 2 else (iX a).bind λb=>some b
noncomputable def jG (d:(List Spot)) (b:Nat) (a:Spot) (k:Unit):Option (Ctl (Unit) (Int)) :=
  (fO a.Key).bind λe=>bif (!e)then some (.ret 5)else (bif (decide ((b:Int)>0))then (idx d (w64 ((b:Int)-1))).bind λj=>some (sLe a.Key j.Key)else some false).bind λh=>bif h then some (.ret 7)else ((jy a.Time).bind λf=>bif (!f)then some true else (aX a.Room 0 1000000).bind λg=>some g).bind λi=>bif i then some (.ret 1)else (fI a.Tags).bind λc=>bif (c != 0)then some (.ret c)else some (.go ())
noncomputable def jq (a:(List Spot)):Option (Int) :=
  bif (decide ((a.length:Int)>60))then some 2 else (forL a () (λk x s=>jG a k x s)).bind λb=>thenC b (λc=>some 0) (λr=>some r)
noncomputable def dP (d:(List Campaign)) (b:Nat) (a:Campaign) (o:Unit):Option (Ctl (Unit) (Int)) :=
  ((fO a.Key).bind λe=>bif (!e)then some true else bif (sNe a.Class (⟨#[]⟩:ByteArray))then (fO a.Class).bind λf=>some (!f)else some false).bind λk=>bif k then some (.ret 5)else (bif (decide ((b:Int)>0))then (idx d (w64 ((b:Int)-1))).bind λn=>some (sLe a.Key n.Key)else some false).bind λl=>bif l then some (.ret 7)else ((jy a.Time).bind λg=>bif (!g)then some true else (aX a.Goal 0 1000000).bind λh=>bif h then some true else (aX a.Most 0 1000000).bind λi=>bif i then some true else (aX a.Cents 0 1000000000).bind λj=>some j).bind λm=>bif m then some (.ret 1)else (fI a.Tags).bind λc=>bif (c != 0)then some (.ret c)else some (.go ())
noncomputable def cO (a:(List Campaign)):Option (Int) :=
  bif (decide ((a.length:Int)>30))then some 2 else (forL a () (λk x s=>dP a k x s)).bind λb=>thenC b (λc=>some 0) (λr=>some r)
noncomputable def gW (d:(List Spot)) (b:(List Campaign)):Option (Int) :=
  (jq d).bind λa=>bif (a != 0)then some a else (cO b).bind λc=>some c
def iI (b:Web) (a:Int):Option (Int) :=
  some (w64 (2+a))
def cmp_isNaN_string (a:ByteArray):Option (Bool) :=
  some (sNe a a)
def cmp_Less_string (a:ByteArray) (b:ByteArray):Option (Bool) :=
  ((cmp_isNaN_string a).bind λc=>bif c then (cmp_isNaN_string b).bind λd=>bif (!d)then some true else some (sLt a b)else some (sLt a b)).bind λe=>some e
def slices_isNaN_string (a:ByteArray):Option (Bool) :=
  some (sNe a a)
def bg (e:(List ByteArray)) (d:ByteArray) (a:Int×Int):Option (Ctl (Int×Int) (Unit)) :=
  bif (decide (a.1<a.2))then (Dm .u64 (IntKind.u64.wrap (w64 (a.1+a.2))) 1).bind λb=>(idx e (w64 b)).bind λf=>(cmp_Less_string f d).bind λc=>bif c then some (.go ((w64 ((w64 b)+1)),a.2))else some (.go (a.1,(w64 b)))else some (.brk (a.1,a.2))
noncomputable def dA (a:(List ByteArray)) (c:ByteArray):Option (Int×Bool) :=
  (fZ (0,(a.length:Int)) (λs=>bg a c s)).bind λd=>thenC d (λb=>(bif (decide (b.1<(a.length:Int)))then (idx a b.1).bind λh=>bif (sEq h c)then some true else (idx a b.1).bind λi=>(slices_isNaN_string i).bind λe=>bif e then (slices_isNaN_string c).bind λf=>some f else some false else some false).bind λg=>some (b.1,g)) (λ_=>none)
noncomputable def jf (b:Spot) (d:Nat) (c:ByteArray) (e:Unit):Option (Ctl (Unit) (Bool)) :=
  (dA b.Tags c).bind λa=>bif (!a.2)then some (.ret false)else some (.go ())
noncomputable def lI (a:Campaign) (b:Spot):Option (Bool) :=
  (bif (decide (b.Time.From<a.Time.From))then some true else some (decide (b.Time.To>a.Time.To))).bind λd=>bif d then some false else (forL a.Tags () (λk x s=>jf b k x s)).bind λc=>thenC c (λe=>some true) (λr=>some r)
def iC (b:Web) (a:Int):Option (Int) :=
  some (w64 ((w64 (2+b.f_camps))+a))
def jW (f:(List Spot)) (d:(List Campaign)) (e:Nat) (a:Nat) (h:Nat) (c:(List (List Int))):Option (Ctl ((List (List Int))) (Unit)) :=
  (mkN (w64 ((w64 (2+(f.length:Int)))+(d.length:Int))) 8).bind λb=>(inN (a:Int) e).bind λ_=>(neL (List.replicate b (0:Int))).bind λ_=>(c[(0+((a:Int)).toNat)]?).bind λg=>some (.go (c.set (0+((a:Int)).toNat) (List.replicate b (0:Int))))
noncomputable def iU (g:Campaign) (c:Nat) (e:(List Campaign)) (h:Nat) (i:Nat) (m:Spot) (a:(List (List Int))):Option (Ctl ((List (List Int))) (Unit)) :=
  (lI g m).bind λj=>(bif j then (neR a).bind λ_=>(uT a c).bind λ_=>(iI (⟨a,(e.length:Int)⟩:Web) (h:Int)).bind λb=>(inN b c).bind λ_=>(a[(0+(b).toNat)]?).bind λk=>(neR a).bind λ_=>(uT a c).bind λ_=>(iC (⟨a,(e.length:Int)⟩:Web) (i:Int)).bind λd=>(inR d k).bind λ_=>(a[(0+(b).toNat)]?).bind λf=>(f[(0+(d).toNat)]?).bind λn=>some (a.set (0+(b).toNat) (f.set (0+(d).toNat) g.Most))else some a).bind λl=>some (.go l)
noncomputable def iT (b:Nat) (e:(List Campaign)) (l:(List Spot)) (d:Nat) (g:Campaign) (a:(List (List Int))):Option (Ctl ((List (List Int))) (Unit)) :=
  (inN 0 b).bind λ_=>(a[(0+(0:Int).toNat)]?).bind λi=>(neR a).bind λ_=>(uT a b).bind λ_=>(iI (⟨a,(e.length:Int)⟩:Web) (d:Int)).bind λc=>(inR c i).bind λ_=>(a[(0+(0:Int).toNat)]?).bind λf=>(f[(0+(c).toNat)]?).bind λm=>(forL l (a.set (0+(0:Int).toNat) (f.set (0+(c).toNat) g.Goal)) (λk x s=>iU g b e d k x s)).bind λh=>thenC h (λj=>some (.go j)) (λ_=>none)
def jQ (c:Nat) (f:(List Campaign)) (e:Nat) (h:Spot) (a:(List (List Int))):Option (Ctl ((List (List Int))) (Unit)) :=
  (neR a).bind λ_=>(uT a c).bind λ_=>(iC (⟨a,(f.length:Int)⟩:Web) (e:Int)).bind λb=>(inN b c).bind λ_=>(a[(0+(b).toNat)]?).bind λg=>(inR 1 g).bind λ_=>(a[(0+(b).toNat)]?).bind λd=>(d[(0+(1:Int).toNat)]?).bind λi=>some (.go (a.set (0+(b).toNat) (d.set (0+(1:Int).toNat) h.Room)))
noncomputable def kQ (c:(List Spot)) (a:(List Campaign)):Option (Web) :=
  (mkN (w64 ((w64 (2+(c.length:Int)))+(a.length:Int))) 24).bind λb=>(nzI (w64 ((w64 (2+(c.length:Int)))+(a.length:Int)))).bind λ_=>(forL (List.range (((b:Nat):Int)).toNat) (List.replicate b ([]:List Int)) (λk x s=>jW c a b k x s)).bind λe=>thenC e (λh=>(forL a h (λk x s=>iT b a c k x s)).bind λf=>thenC f (λi=>(forL c i (λk x s=>jQ b a k x s)).bind λg=>thenC g (λd=>(uT d b).bind λ_=>some (⟨d,(a.length:Int)⟩:Web)) (λ_=>none)) (λ_=>none)) (λ_=>none)
def jo (a:Nat) (d:Nat) (b:(List Int)):Option (Ctl ((List Int)) (Unit)) :=
  (inR (a:Int) b).bind λ_=>(b[(0+((a:Int)).toNat)]?).bind λc=>some (.go (b.set (0+((a:Int)).toNat) (-1)))
def iE (i:(List Int)) (l:Web) (e:Int) (b:Nat) (n:Nat) (a:(List Int)×(List Int)×Nat):Option (Ctl ((List Int)×(List Int)×Nat) (Unit)) :=
  (inR (b:Int) i).bind λ_=>(l.f_can[(0+(e).toNat)]?).bind λj=>(j[(0+((b:Int)).toNat)]?).bind λf=>(bif (decide (f>0))then (inR (b:Int) a.1).bind λ_=>(a.1[(0+((b:Int)).toNat)]?).bind λg=>some (decide (g<0))else some false).bind λk=>(bif k then (inN 0 (a.2.1.length-a.2.2)).bind λ_=>(a.2.1[(a.2.2+(0:Int).toNat)]?).bind λh=>(inR (b:Int) a.1).bind λ_=>(a.1[(0+((b:Int)).toNat)]?).bind λm=>(leN a.2.2 a.2.1.length).bind λ_=>(iJ (a.2.1.drop a.2.2) ([(b:Int)]:List Int)).bind λd=>some ((a.1.set (0+((b:Int)).toNat) h),d,0)else some (a.1,a.2.1,a.2.2)).bind λc=>some (.go (c.1,c.2.1,c.2.2))
def gJ (f:Int) (d:Web) (a:(List Int)×(List Int)×Nat):Option (Ctl ((List Int)×(List Int)×Nat) (Unit)) :=
  (bif (decide ((((a.2.1.length-a.2.2):Nat):Int)>0))then (inR f a.1).bind λ_=>(a.1[(0+(f).toNat)]?).bind λg=>some (decide (g<0))else some false).bind λi=>bif i then (inN 0 (a.2.1.length-a.2.2)).bind λ_=>(a.2.1[(a.2.2+(0:Int).toNat)]?).bind λc=>(inN c d.f_can.length).bind λ_=>(d.f_can[(0+(c).toNat)]?).bind λe=>(forL (List.range ((e.length:Int)).toNat) (a.1,a.2.1,a.2.2) (λk x s=>iE e d c k x s)).bind λh=>thenC h (λb=>(ltN b.2.2 b.2.1.length).bind λ_=>some (.go (b.1,b.2.1,(b.2.2+1)))) (λ_=>none)else some (.brk (a.1,a.2.1,a.2.2))
noncomputable def lw (f:Web) (a:Int) (d:Int):Option ((List Int)×Bool) :=
  (mkN ((f.f_can.length:Nat):Int) 8).bind λe=>(forL (List.range (((List.replicate e (0:Int)).length:Int)).toNat) (List.replicate e (0:Int)) (λk x s=>jo k x s)).bind λh=>thenC h (λb=>(inR a b).bind λ_=>(b[(0+(a).toNat)]?).bind λj=>(fZ ((b.set (0+(a).toNat) a),([a]:List Int),0) (λs=>gJ d f s)).bind λi=>thenC i (λc=>(inR d c.1).bind λ_=>(c.1[(0+(d).toNat)]?).bind λg=>some (c.1,(decide (g>=0)))) (λ_=>none)) (λ_=>none)
def fA (f:Int) (c:(List Int)×Bool) (i:Web) (d:(List (List Int))×Int) (a:Int×Int):Option (Ctl (Int×Int) (Unit)) :=
  bif (a.2 != f)then (idx c.1 a.2).bind λb=>(inN b i.f_can.length).bind λ_=>(d.1[(0+(b).toNat)]?).bind λg=>(inR a.2 g).bind λ_=>(d.1[(0+(b).toNat)]?).bind λh=>(h[(0+(a.2).toNat)]?).bind λe=>(idx c.1 a.2).bind λj=>some (.go ((zi a.1 e),j))else some (.brk (a.1,a.2))
def fE (m:Int) (g:(List Int)×Bool) (k:Web) (d:Int×Int) (a:(List (List Int))×Int):Option (Ctl ((List (List Int))×Int) (Unit)) :=
  bif (a.2 != m)then (idx g.1 a.2).bind λb=>(inN b k.f_can.length).bind λ_=>(a.1[(0+(b).toNat)]?).bind λh=>(inR a.2 h).bind λ_=>(a.1[(0+(b).toNat)]?).bind λn=>(n[(0+(a.2).toNat)]?).bind λf=>(inR a.2 h).bind λ_=>(a.1[(0+(b).toNat)]?).bind λc=>(c[(0+(a.2).toNat)]?).bind λq=>(inN a.2 k.f_can.length).bind λ_=>((a.1.set (0+(b).toNat) (c.set (0+(a.2).toNat) (w64 (f-d.1))))[(0+(a.2).toNat)]?).bind λi=>(idx g.1 a.2).bind λe=>(inR e i).bind λ_=>((a.1.set (0+(b).toNat) (c.set (0+(a.2).toNat) (w64 (f-d.1))))[(0+(a.2).toNat)]?).bind λo=>(o[(0+(e).toNat)]?).bind λl=>(inR e i).bind λ_=>((a.1.set (0+(b).toNat) (c.set (0+(a.2).toNat) (w64 (f-d.1))))[(0+(a.2).toNat)]?).bind λj=>(j[(0+(e).toNat)]?).bind λr=>(idx g.1 a.2).bind λp=>some (.go (((a.1.set (0+(b).toNat) (c.set (0+(a.2).toNat) (w64 (f-d.1)))).set (0+(a.2).toNat) (j.set (0+(e).toNat) (w64 (l+d.1)))),p))else some (.brk (a.1,a.2))
noncomputable def fB (f:Int) (b:Web) (c:Int) (e:Int) (a:(List (List Int))×Int):Option (Ctl ((List (List Int))×Int) (Unit)) :=
  bif (decide (a.2<f))then (neR a.1).bind λ_=>(uT a.1 b.f_can.length).bind λ_=>(lw (⟨a.1,b.f_camps⟩:Web) c e).bind λd=>bif (!d.2)then some (.brk (a.1,a.2))else (fZ ((w64 (f-a.2)),e) (λs=>fA c d b a s)).bind λh=>thenC h (λg=>(fZ (a.1,e) (λs=>fE c d b g s)).bind λi=>thenC i (λj=>some (.go (j.1,(w64 (a.2+g.1))))) (λ_=>none)) (λ_=>none)else some (.brk (a.1,a.2))
noncomputable def iH (a:Web) (c:Int) (f:Int) (d:Int):Option (Int×Web) :=
  (fZ (a.f_can,0) (λs=>fB d a c f s)).bind λe=>thenC e (λb=>(j5 b.1 a.f_can).bind λ_=>some (b.2,(⟨b.1,a.f_camps⟩:Web))) (λ_=>none)
def kR (c:Nat) (b:Campaign) (a:Int):Option (Ctl (Int) (Unit)) :=
  some (.go (w64 (a+b.Goal)))
def nI (a:(List Campaign)):Option (Int) :=
  (forL a 0 (λk x s=>kR k x s)).bind λb=>thenC b (λc=>some c) (λ_=>none)
noncomputable def jN (k:Campaign) (d:Web) (o:Nat) (p:Nat) (l:Spot) (c:(List (List Int))×(List Share)×Int):Option (Ctl ((List (List Int))×(List Share)×Int) (Unit)) :=
  (lI k l).bind λs=>bif (!s)then some (.go (c.1,c.2.1,c.2.2))else (neR c.1).bind λ_=>(uT c.1 d.f_can.length).bind λ_=>(iI (⟨c.1,c.2.2⟩:Web) (o:Int)).bind λa=>(neR c.1).bind λ_=>(uT c.1 d.f_can.length).bind λ_=>(iC (⟨c.1,c.2.2⟩:Web) (p:Int)).bind λb=>(inN b d.f_can.length).bind λ_=>(c.1[(0+(b).toNat)]?).bind λt=>(inR a t).bind λ_=>(c.1[(0+(b).toNat)]?).bind λu=>(u[(0+(a).toNat)]?).bind λi=>(inN a d.f_can.length).bind λ_=>(c.1[(0+(a).toNat)]?).bind λv=>(inR b v).bind λ_=>(c.1[(0+(a).toNat)]?).bind λw=>(w[(0+(b).toNat)]?).bind λn=>(inN a d.f_can.length).bind λ_=>(c.1[(0+(a).toNat)]?).bind λx=>(inN b d.f_can.length).bind λ_=>(c.1[(0+(b).toNat)]?).bind λy=>(inR b x).bind λ_=>(c.1[(0+(a).toNat)]?).bind λf=>(f[(0+(b).toNat)]?).bind λC=>(inR a y).bind λ_=>((c.1.set (0+(a).toNat) (f.set (0+(b).toNat) 0))[(0+(b).toNat)]?).bind λg=>(g[(0+(a).toNat)]?).bind λE=>(neR ((c.1.set (0+(a).toNat) (f.set (0+(b).toNat) 0)).set (0+(b).toNat) (g.set (0+(a).toNat) 0))).bind λ_=>(uT ((c.1.set (0+(a).toNat) (f.set (0+(b).toNat) 0)).set (0+(b).toNat) (g.set (0+(a).toNat) 0)) d.f_can.length).bind λ_=>(iH (⟨((c.1.set (0+(a).toNat) (f.set (0+(b).toNat) 0)).set (0+(b).toNat) (g.set (0+(a).toNat) 0)),c.2.2⟩:Web) b a n).bind λe=>(j5 e.2.f_can ((c.1.set (0+(a).toNat) (f.set (0+(b).toNat) 0)).set (0+(b).toNat) (g.set (0+(a).toNat) 0))).bind λ_=>(bif (decide ((w64 (i+e.1))>0))then (iJ c.2.1 ([(⟨k.Key,l.Key,(w64 (i+e.1))⟩:Share)]:List Share)).bind λm=>some m else some c.2.1).bind λz=>(inN a d.f_can.length).bind λ_=>(e.2.f_can[(0+(a).toNat)]?).bind λq=>(inN b d.f_can.length).bind λ_=>(e.2.f_can[(0+(b).toNat)]?).bind λr=>(inR b q).bind λ_=>(e.2.f_can[(0+(a).toNat)]?).bind λh=>(h[(0+(b).toNat)]?).bind λA=>(inR a r).bind λ_=>((e.2.f_can.set (0+(a).toNat) (h.set (0+(b).toNat) 0))[(0+(b).toNat)]?).bind λj=>(j[(0+(a).toNat)]?).bind λB=>some (.go (((e.2.f_can.set (0+(a).toNat) (h.set (0+(b).toNat) 0)).set (0+(b).toNat) (j.set (0+(a).toNat) 0)),z,e.2.f_camps))
noncomputable def jM (f:(List Spot)) (e:Web) (c:Nat) (g:Campaign) (a:(List (List Int))×(List Share)×Int):Option (Ctl ((List (List Int))×(List Share)×Int) (Unit)) :=
  (forL f (a.1,a.2.1,a.2.2) (λk x s=>jN g e c k x s)).bind λd=>thenC d (λb=>some (.go (b.1,b.2.1,b.2.2))) (λ_=>none)
noncomputable def kY (d:(List Spot)) (b:(List Campaign)):Option ((List Share)×Int) :=
  (gW d b).bind λe=>bif (e != 0)then some (([]:(List Share)),e)else (kQ d b).bind λa=>(neR a.f_can).bind λ_=>(neR a.f_can).bind λ_=>(uT a.f_can a.f_can.length).bind λ_=>(iH a 0 1 1800000000).bind λc=>(j5 c.2.f_can a.f_can).bind λ_=>(nI b).bind λg=>bif (decide (c.1<g))then some (([]:(List Share)),12)else (forL b (c.2.f_can,([]:List Share),c.2.f_camps) (λk x s=>jM d a k x s)).bind λf=>thenC f (λh=>some (h.2.1,0)) (λ_=>none)
def pR (a:Rect):Option (Int) :=
  ((aX a.X (-100000) 100000).bind λd=>bif d then some true else (aX a.Y (-100000) 100000).bind λe=>some e).bind λg=>bif g then some 1 else ((aX a.W 1 (w64 (100000-a.X))).bind λb=>bif b then some true else (aX a.H 1 (w64 (100000-a.Y))).bind λc=>some c).bind λf=>bif f then some 1 else some 0
def mq (c:Nat) (b:Rect) (d:Unit):Option (Ctl (Unit) (Int)) :=
  (pR b).bind λa=>bif (a != 0)then some (.ret a)else some (.go ())
def lU (a:(List Rect)):Option (Int) :=
  bif (decide ((a.length:Int)>2000))then some 2 else (forL a () (λk x s=>mq k x s)).bind λb=>thenC b (λc=>some 0) (λr=>some r)
def ig (a:Int):Option Bool :=
  bif (decide (a<0))then none else bif (decide ((w64 (a-(w64 (0-0))))>0))then (zN (w64 (a-(w64 (0-0)))) 32).bind λ_=>some true else some false
def gG (c:Nat) (b:(List Rect)) (a:Int):Option (Ctl (Int) (Unit)) :=
  (bif (decide ((w64 (a+(b.length:Int)))<0))then none else some ()).bind λd=>some (.go (w64 (a+(b.length:Int))))
def gH (d:Nat) (c:(List Rect)) (b:(List Rect)):Option (Ctl ((List Rect)) (Unit)) :=
  (iJ b c).bind λa=>some (.go a)
def eT (a:(List (List Rect))):Option ((List Rect)) :=
  (forL a 0 (λk x s=>gG k x s)).bind λb=>thenC b (λe=>(ig e).bind λf=>(forL a ([]:List Rect) (λk x s=>gH k x s)).bind λc=>thenC c (λd=>some d) (λ_=>none)) (λ_=>none)
def cK (x:(List Int)):Option ((List Int)) :=
  Hw x
def gz (c:(List Int)) (b:Int) (a:(List Int)×Int×Int):Option (Ctl ((List Int)×Int×Int) (Unit)) :=
  bif (decide (a.2.2<(((((c.length:Int)).toNat-(b).toNat):Nat):Int)))then (inN a.2.2 (((c.length:Int)).toNat-(b).toNat)).bind λ_=>(a.1[(((b).toNat)+(a.2.2).toNat)]?).bind λe=>(inN (w64 (a.2.2-1)) (((c.length:Int)).toNat-(b).toNat)).bind λ_=>(a.1[(((b).toNat)+((w64 (a.2.2-1))).toNat)]?).bind λf=>(bif (e != f)then (inN a.2.2 (((c.length:Int)).toNat-(b).toNat)).bind λ_=>(a.1[(((b).toNat)+(a.2.2).toNat)]?).bind λg=>(inR a.2.1 a.1).bind λ_=>(a.1[(0+(a.2.1).toNat)]?).bind λh=>some ((a.1.set (0+(a.2.1).toNat) g),(w64 (a.2.1+1)))else some (a.1,a.2.1)).bind λd=>some (.go (d.1,d.2,(w64 (a.2.2+1))))else some (.brk (a.1,a.2.1,a.2.2))
noncomputable def dX (b:(List Int)) (c:Int):Option (Ctl (Int) ((List Int))) :=
  bif (decide (c<(b.length:Int)))then (inR c b).bind λ_=>(b[(0+(c).toNat)]?).bind λd=>(inR (w64 (c-1)) b).bind λ_=>(b[(0+((w64 (c-1))).toNat)]?).bind λe=>bif (d==e)then (neL b).bind λ_=>(wP b c (b.length:Int)).bind λ_=>(fZ (b,c,1) (λs=>gz b c s)).bind λf=>thenC f (λa=>(wP a.1 a.2.1 (a.1.length:Int)).bind λ_=>(wP (a.1.take ((a.2.1).toNat)++List.replicate (((a.1.length:Int)).toNat-(a.2.1).toNat) 0++a.1.drop (((a.2.1).toNat)+(((a.1.length:Int)).toNat-(a.2.1).toNat))) 0 a.2.1).bind λ_=>some (.ret (Dh (a.1.take ((a.2.1).toNat)++List.replicate (((a.1.length:Int)).toNat-(a.2.1).toNat) 0++a.1.drop (((a.2.1).toNat)+(((a.1.length:Int)).toNat-(a.2.1).toNat))) 0 ((a.2.1).toNat)))) (λ_=>none)else some (.go (w64 (c+1)))else some (.brk c)
noncomputable def fw (a:(List Int)):Option ((List Int)) :=
  bif (decide ((a.length:Int)<2))then some a else (fZ 1 (λs=>dX a s)).bind λb=>thenC b (λc=>some a) (λr=>some r)
def uD (a:Run) (b:Run):Option (Int) :=
  some (w64 (a.f_from-b.f_from))
def qE (c:Int):Option (Int) :=
  (bif (decide (c>=4294967296))then (Dm .u64 c 32).bind λh=>some (h,32)else some (c,0)).bind λa=>(bif (decide (a.1>=65536))then (Dm .u64 a.1 16).bind λf=>some (f,(w64 (a.2+16)))else some (a.1,a.2)).bind λb=>(bif (decide (b.1>=256))then (Dm .u64 b.1 8).bind λg=>some (g,(w64 (b.2+8)))else some (b.1,b.2)).bind λd=>(zF (⟨#[0,1,2,2,3,3,3,3,4,4,4,4,4,4,4,4,5,5,5,5,5,5,5,5,5,5,5,5,5,5,5,5,6,6,6,6,6,6,6,6,6,6,6,6,6,6,6,6,6,6,6,6,6,6,6,6,6,6,6,6,6,6,6,6,7,7,7,7,7,7,7,7,7,7,7,7,7,7,7,7,7,7,7,7,7,7,7,7,7,7,7,7,7,7,7,7,7,7,7,7,7,7,7,7,7,7,7,7,7,7,7,7,7,7,7,7,7,7,7,7,7,7,7,7,7,7,7,7,8,8,8,8,8,8,8,8,8,8,8,8,8,8,8,8,8,8,8,8,8,8,8,8,8,8,8,8,8,8,8,8,8,8,8,8,8,8,8,8,8,8,8,8,8,8,8,8,8,8,8,8,8,8,8,8,8,8,8,8,8,8,8,8,8,8,8,8,8,8,8,8,8,8,8,8,8,8,8,8,8,8,8,8,8,8,8,8,8,8,8,8,8,8,8,8,8,8,8,8,8,8,8,8,8,8,8,8,8,8,8,8,8,8,8,8,8,8,8,8,8,8,8,8,8,8,8,8]⟩:ByteArray) (IntKind.u8.wrap d.1)).bind λe=>some (w64 (d.2+(w64 (e.toNat:Int))))
def p8 (b:Int):Option (Int) :=
  (qE b).bind λa=>some a
def bZ (c:Int) (a:(List Run)×Int):Option (Ctl ((List Run)×Int) (Unit)) :=
  (bif (decide (a.2>c))then (inR a.2 a.1).bind λ_=>(a.1[(0+(a.2).toNat)]?).bind λd=>(inR (w64 (a.2-1)) a.1).bind λ_=>(a.1[(0+((w64 (a.2-1))).toNat)]?).bind λe=>(uD d e).bind λg=>some (decide (g<0))else some false).bind λh=>bif h then (inR (w64 (a.2-1)) a.1).bind λ_=>(a.1[(0+((w64 (a.2-1))).toNat)]?).bind λb=>(inR a.2 a.1).bind λ_=>(a.1[(0+(a.2).toNat)]?).bind λf=>(inR a.2 a.1).bind λ_=>(a.1[(0+(a.2).toNat)]?).bind λi=>(inR (w64 (a.2-1)) (a.1.set (0+(a.2).toNat) b)).bind λ_=>((a.1.set (0+(a.2).toNat) b)[(0+((w64 (a.2-1))).toNat)]?).bind λj=>some (.go (((a.1.set (0+(a.2).toNat) b).set (0+((w64 (a.2-1))).toNat) f),(w64 (a.2-1))))else some (.brk (a.1,a.2))
noncomputable def bK (c:Int) (b:Int) (a:(List Run)×Int):Option (Ctl ((List Run)×Int) (Unit)) :=
  bif (decide (a.2<c))then (fZ (a.1,a.2) (λs=>bZ b s)).bind λd=>thenC d (λe=>some (.go (e.1,(w64 (a.2+1))))) (λ_=>none)else some (.brk (a.1,a.2))
noncomputable def bP (c:(List Run)) (a:Int) (b:Int):Option ((List Run)) :=
  (fZ (c,(w64 (a+1))) (λs=>bK b a s)).bind λd=>thenC d (λe=>some e.1) (λ_=>none)
noncomputable def bX (b:Int) (a:Int) (c:(List Run)) (e:Int) (f:Unit):Option (Ctl (Unit) ((List Run))) :=
  bif (decide ((w64 (b-a))<=12))then (bP c a b).bind λd=>(j5 d c).bind λ_=>some (.ret d)else bif (e==0)then none else none
noncomputable def di (a:(List Run)) (b:Int) (c:Int) (d:Int):Option ((List Run)) :=
  (fZ () (λs=>bX c b a d s)).bind λe=>thenC e (λf=>some a) (λr=>some r)
noncomputable def bS (a:(List Run)):Option ((List Run)) :=
  (p8 (IntKind.u64.wrap (a.length:Int))).bind λc=>(di a 0 (a.length:Int) c).bind λb=>(j5 b a).bind λ_=>some b
def oF (c:Int) (g:Nat) (a:Rect) (b:(List Run)):Option (Ctl ((List Run)) (Unit)) :=
  (bif (decide (a.Y<=c))then some (decide (c<(w64 (a.Y+a.H))))else some false).bind λe=>(bif e then (iJ b ([(⟨a.X,(w64 (a.X+a.W))⟩:Run)]:List Run)).bind λd=>some d else some b).bind λf=>some (.go f)
def oQ (i:Nat) (b:Run) (a:(List Run)):Option (Ctl ((List Run)) (Unit)) :=
  (bif (decide ((w64 ((a.length:Int)-1))>=0))then (inR (w64 ((a.length:Int)-1)) a).bind λ_=>(a[(0+((w64 ((a.length:Int)-1))).toNat)]?).bind λd=>some (decide (b.f_from<=d.f_to))else some false).bind λg=>(bif g then (inR (w64 ((a.length:Int)-1)) a).bind λ_=>(a[(0+((w64 ((a.length:Int)-1))).toNat)]?).bind λe=>(inR (w64 ((a.length:Int)-1)) a).bind λ_=>(a[(0+((w64 ((a.length:Int)-1))).toNat)]?).bind λf=>some (a.set (0+((w64 ((a.length:Int)-1))).toNat) (⟨f.f_from,(jc e.f_to b.f_to)⟩:Run))else (iJ a ([b]:List Run)).bind λc=>some c).bind λh=>some (.go h)
noncomputable def oq (c:(List Rect)) (g:Int):Option ((List Run)) :=
  (forL c ([]:List Run) (λk x s=>oF g k x s)).bind λd=>thenC d (λb=>(bS b).bind λa=>(j5 a b).bind λ_=>(forL a ([]:List Run) (λk x s=>oQ k x s)).bind λe=>thenC e (λf=>some f) (λ_=>none)) (λ_=>none)
def oH (b:(List Run)) (d:Run) (a:Int):Option (Ctl (Int) (Unit)) :=
  (bif (decide (a<(b.length:Int)))then (idx b a).bind λe=>some (decide (e.f_to<=d.f_from))else some false).bind λc=>bif c then some (.go (w64 (a+1)))else some (.brk a)
def o5 (b:(List Run)) (f:Run) (a:(List Run)×Int×Int):Option (Ctl ((List Run)×Int×Int) (Unit)) :=
  (bif (decide (a.2.1<(b.length:Int)))then (idx b a.2.1).bind λg=>some (decide (g.f_from<f.f_to))else some false).bind λd=>bif d then (idx b a.2.1).bind λh=>(bif (decide (h.f_from>a.2.2))then (idx b a.2.1).bind λi=>(iJ a.1 ([(⟨a.2.2,i.f_from⟩:Run)]:List Run)).bind λc=>some c else some a.1).bind λe=>(idx b a.2.1).bind λj=>some (.go (e,(w64 (a.2.1+1)),(jc a.2.2 j.f_to)))else some (.brk (a.1,a.2.1,a.2.2))
noncomputable def ma (c:(List Run)) (j:Nat) (a:Run) (e:(List Run)×Int):Option (Ctl ((List Run)×Int) (Unit)) :=
  (fZ e.2 (λs=>oH c a s)).bind λg=>thenC g (λd=>(fZ (e.1,d,a.f_from) (λs=>o5 c a s)).bind λh=>thenC h (λb=>(bif (decide (b.2.2<a.f_to))then (iJ b.1 ([(⟨b.2.2,a.f_to⟩:Run)]:List Run)).bind λf=>some f else some b.1).bind λi=>some (.go (i,d))) (λ_=>none)) (λ_=>none)
noncomputable def qz (a:(List Run)) (b:(List Run)):Option ((List Run)) :=
  (forL a (([]:List Run),0) (λk x s=>ma b k x s)).bind λc=>thenC c (λd=>some d.1) (λ_=>none)
def fo (s2_2:(List Run)) (c:Nat) (a:Run) (d:Unit):Option (Ctl (Unit) (Bool)) :=
  (idx s2_2 (c:Int)).bind λb=>bif (!((a.f_from==b.f_from)&&((a.f_to==b.f_to)&&true)))then some (.ret false)else some (.go ())
def dR (s1_1:(List Run)) (s2_2:(List Run)):Option (Bool) :=
  bif ((s1_1.length:Int) != (s2_2.length:Int))then some false else (forL s1_1 () (λk x s=>fo s2_2 k x s)).bind λa=>thenC a (λb=>some true) (λr=>some r)
def mR (d:Nat) (a:Rect) (c:(List Int)):Option (Ctl ((List Int)) (Unit)) :=
  (iJ c ([a.Y,(w64 (a.Y+a.H))]:List Int)).bind λb=>some (.go b)
def mQ (b:(List Rect)×(List Run)×Int) (e:Int) (f:Nat) (a:Run) (d:(List Rect)):Option (Ctl ((List Rect)) (Unit)) :=
  (iJ d ([(⟨a.f_from,b.2.2,(w64 (a.f_to-a.f_from)),(w64 (e-b.2.2))⟩:Rect)]:List Rect)).bind λc=>some (.go c)
noncomputable def kC (h:(List Int)) (e:(List Rect)) (f:(List Rect)) (d:Nat) (b:Int) (a:(List Rect)×(List Run)×Int):Option (Ctl ((List Rect)×(List Run)×Int) (Unit)) :=
  (bif (decide ((w64 ((d:Int)+1))<(h.length:Int)))then (oq e b).bind λi=>(oq f b).bind λj=>(qz i j).bind λl=>some l else some ([]:List Run)).bind λc=>(dR a.2.1 c).bind λm=>bif m then some (.go (a.1,a.2.1,a.2.2))else (forL a.2.1 a.1 (λk x s=>mQ a b k x s)).bind λg=>thenC g (λn=>some (.go (n,c,b))) (λ_=>none)
noncomputable def nO (a:(List Rect)) (b:(List Rect)):Option ((List Rect)) :=
  (eT ([a,b]:List (List Rect))).bind λh=>(forL h ([]:List Int) (λk x s=>mR k x s)).bind λf=>thenC f (λe=>(cK e).bind λc=>(j5 c e).bind λ_=>(fw c).bind λd=>(forL d (([]:List Rect),([]:List Run),0) (λk x s=>kC d a b k x s)).bind λg=>thenC g (λi=>some i.1) (λ_=>none)) (λ_=>none)
def sD (c:Nat) (a:Rect) (b:Int):Option (Ctl (Int) (Unit)) :=
  some (.go (w64 (b+(w64 (a.W*a.H)))))
def tX (a:(List Rect)):Option (Int) :=
  (forL a 0 (λk x s=>sD k x s)).bind λb=>thenC b (λc=>some c) (λ_=>none)
noncomputable def qj (a:(List Rect)):Option (Int×Int) :=
  (lU a).bind λb=>bif (b != 0)then some (0,b)else (nO a ([]:List Rect)).bind λc=>(tX c).bind λd=>some (d,0)
def bR (a:Int):Option (Bool) :=
  (bif (decide (a>=0))then some (decide (a<345686400000))else some false).bind λb=>some b
def mK (a:Campaign) (b:Int):Option (Int) :=
  bif (decide (b<a.Time.From))then some 0 else bif (decide (b>=a.Time.To))then some a.Goal else (FK .i64 (w64 (a.Goal*(w64 (b-a.Time.From)))) (w64 (a.Time.To-a.Time.From))).bind λc=>some c
noncomputable def qp (b:Campaign) (a:Int):Option (Int×Int) :=
  (cO ([b]:List Campaign)).bind λc=>bif (c != 0)then some (0,c)else (bR a).bind λe=>bif (!e)then some (0,1)else (mK b a).bind λd=>some (d,0)
def iA (a:ByteArray) (b:ByteArray):Option (Int) :=
  some (Aa a b)
def strings_Compare (a:ByteArray) (b:ByteArray):Option (Int) :=
  (iA a b).bind λc=>some c
def cmp_isNaN_int (a:Int):Option (Bool) :=
  some (a != a)
def cmp_Compare_int (a:Int) (b:Int):Option (Int) :=
  (cmp_isNaN_int a).bind λd=>(cmp_isNaN_int b).bind λc=>bif d then bif c then some 0 else some (-1)else bif c then some 1 else bif (decide (a<b))then some (-1)else bif (decide (a>b))then some 1 else some 0
def p9 (b:Nat) (a:Int) (c:Unit):Option (Ctl (Unit) (Int)) :=
  bif (a != 0)then some (.ret a)else some (.go ())
def pJ (b:(List Int)):Option (Int) :=
  (forL b () (λk x s=>p9 k x s)).bind λa=>thenC a (λc=>some 0) (λr=>some r)
def iy (a:Beat) (b:Beat):Option (Int) :=
  (strings_Compare a.Player b.Player).bind λc=>(cmp_Compare_int a.At b.At).bind λd=>(pJ ([c,d]:List Int)).bind λe=>some e
noncomputable def ib (c:(List Beat)) (b:Nat) (a:Beat) (n:Unit):Option (Ctl (Unit) (Int)) :=
  (fO a.Player).bind λd=>bif (!d)then some (.ret 5)else ((bR a.At).bind λe=>bif (!e)then some true else (aX a.Clock 0 345686399999).bind λf=>some f).bind λh=>bif h then some (.ret 1)else (bif (decide ((b:Int)>0))then (idx c (w64 ((b:Int)-1))).bind λk=>(iy k a).bind λg=>some (decide (g>=0))else some false).bind λi=>bif i then some (.ret 7)else (bif (decide ((b:Int)>0))then (idx c (w64 ((b:Int)-1))).bind λl=>bif (sEq a.Player l.Player)then (idx c (w64 ((b:Int)-1))).bind λm=>some (decide (a.Clock<=m.Clock))else some false else some false).bind λj=>bif j then some (.ret 16)else some (.go ())
noncomputable def fq (a:(List Beat)):Option (Int) :=
  bif (decide ((a.length:Int)>500))then some 2 else (forL a () (λk x s=>ib a k x s)).bind λb=>thenC b (λc=>some 0) (λr=>some r)
def jg (f:ByteArray) (e:Bool) (h:Nat) (a:Beat) (b:(List Beat_)):Option (Ctl ((List Beat_)) (Unit)) :=
  (bif (sNe a.Player f)then some b else bif e then (iJ b ([(⟨a.At,a.Clock⟩:Beat_)]:List Beat_)).bind λc=>some c else (iJ b ([(⟨a.Clock,a.At⟩:Beat_)]:List Beat_)).bind λd=>some d).bind λg=>some (.go g)
def j3 (b:(List Beat)) (d:ByteArray) (a:Bool):Option ((List Beat_)) :=
  (forL b ([]:List Beat_) (λk x s=>jg d a k x s)).bind λc=>thenC c (λe=>some e) (λ_=>none)
def gu (b:(List Beat_)) (c:Int) (a:Int):Option (Ctl (Int) (Unit)) :=
  (bif (decide (a<(b.length:Int)))then (idx b a).bind λe=>some (decide (e.f_from<=c))else some false).bind λd=>bif d then some (.go (w64 (a+1)))else some (.brk a)
noncomputable def gZ (a:(List Beat_)) (c:Int):Option (Int×Int) :=
  bif ((a.length:Int)==0)then some (0,8)else (fZ 0 (λs=>gu a c s)).bind λk=>thenC k (λd=>bif (d==0)then (idx a 0).bind λg=>(idx a 0).bind λh=>(bR (w64 (g.f_to-(w64 (h.f_from-c))))).bind λl=>bif (!l)then some (0,11)else some ((w64 (g.f_to-(w64 (h.f_from-c)))),0)else bif (d==(a.length:Int))then (idx a (w64 (d-1))).bind λi=>(idx a (w64 (d-1))).bind λj=>(bR (w64 ((w64 (i.f_to+c))-j.f_from))).bind λm=>bif (!m)then some (0,11)else some ((w64 ((w64 (i.f_to+c))-j.f_from)),0)else (idx a (w64 (d-1))).bind λb=>(idx a d).bind λe=>(bif (decide ((w64 (e.f_from-b.f_from))>2592000000))then some true else some (decide ((w64 (e.f_to-b.f_to))>2592000000))).bind λo=>bif o then some (0,2)else (FK .i64 (w64 ((w64 (c-b.f_from))*(w64 (e.f_to-b.f_to)))) (w64 (e.f_from-b.f_from))).bind λf=>(bR (w64 (b.f_to+f))).bind λn=>bif (!n)then some (0,11)else some ((w64 (b.f_to+f)),0)) (λ_=>none)
noncomputable def qw (a:(List Beat)) (c:ByteArray) (b:Int) (f:Bool):Option (Int×Int) :=
  (fq a).bind λe=>bif (e != 0)then some (0,e)else (fO c).bind λi=>bif (!i)then some (0,5)else (bR b).bind λg=>bif (!g)then some (0,1)else (j3 a c f).bind λh=>(gZ h b).bind λd=>some (d.1,d.2)
noncomputable def qx (c:(List Beat)) (d:ByteArray) (b:Int):Option (Int×Int) :=
  (qw c d b false).bind λa=>some (a.1,a.2)
def Bn (a:Int):Option (Bool) :=
  (bif (decide (a>=0))then some (decide (a<=4000))else some false).bind λb=>some b
def kI (c:(List Int)) (a:Nat) (b:Int) (g:Unit):Option (Ctl (Unit) (Int)) :=
  (Bn b).bind λd=>bif (!d)then some (.ret 1)else (bif (decide ((a:Int)>0))then (idx c (w64 ((a:Int)-1))).bind λf=>some (decide (b<=f))else some false).bind λe=>bif e then some (.ret 7)else some (.go ())
def jP (a:(List Int)):Option (Int) :=
  bif (decide ((a.length:Int)>100))then some 2 else (forL a () (λk x s=>kI a k x s)).bind λb=>thenC b (λc=>some 0) (λr=>some r)
noncomputable def jm (a:(List ByteArray)):Option (Int) :=
  bif (decide ((a.length:Int)>20))then some 2 else (iX a).bind λb=>some b
noncomputable def jb (a:Entry):Option (Int) :=
  ((fO a.Key).bind λk=>bif (!k)then some true else (fO a.Item).bind λl=>some (!l)).bind λo=>bif o then some 5 else ((aX a.Version 0 1000000).bind λc=>bif c then some true else (aX a.First 0 a.Last).bind λd=>bif d then some true else bif (decide (a.Last>4000))then some true else (aX a.Every 1 400).bind λe=>bif e then some true else (aX a.Days 1 127).bind λf=>some f).bind λm=>bif m then some 1 else (jP a.Except).bind λb=>bif (b != 0)then some b else ((aX a.From 0 1439).bind λg=>bif g then some true else (aX a.To 0 1439).bind λh=>bif h then some true else (aX a.Prio 0 9).bind λi=>some i).bind λn=>bif n then some 1 else (jm a.Tags).bind λj=>some j
noncomputable def gq (d:(List Entry)) (a:Nat) (c:Entry) (g:Unit):Option (Ctl (Unit) (Int)) :=
  (jb c).bind λb=>bif (b != 0)then some (.ret b)else (bif (decide ((a:Int)>0))then (idx d (w64 ((a:Int)-1))).bind λf=>some (sLe c.Key f.Key)else some false).bind λe=>bif e then some (.ret 7)else some (.go ())
noncomputable def iw (a:(List Entry)):Option (Int) :=
  bif (decide ((a.length:Int)>200))then some 2 else (forL a () (λk x s=>gq a k x s)).bind λb=>thenC b (λc=>some 0) (λr=>some r)
def jX (a:Window):Option (Int) :=
  ((aX a.From 0 a.To).bind λb=>bif b then some true else some (decide (a.To>345686400000))).bind λc=>bif c then some 1 else bif (decide ((w64 (a.To-a.From))>34560000000))then some 2 else some 0
def cmp_Less_int (a:Int) (b:Int):Option (Bool) :=
  ((cmp_isNaN_int a).bind λc=>bif c then (cmp_isNaN_int b).bind λd=>bif (!d)then some true else some (decide (a<b))else some (decide (a<b))).bind λe=>some e
def ji (a:Int):Option (Bool) :=
  some (a != a)
def fe (e:(List Int)) (d:Int) (a:Int×Int):Option (Ctl (Int×Int) (Unit)) :=
  bif (decide (a.1<a.2))then (Dm .u64 (IntKind.u64.wrap (w64 (a.1+a.2))) 1).bind λb=>(idx e (w64 b)).bind λf=>(cmp_Less_int f d).bind λc=>bif c then some (.go ((w64 ((w64 b)+1)),a.2))else some (.go (a.1,(w64 b)))else some (.brk (a.1,a.2))
noncomputable def d9 (a:(List Int)) (c:Int):Option (Int×Bool) :=
  (fZ (0,(a.length:Int)) (λs=>fe a c s)).bind λd=>thenC d (λb=>(bif (decide (b.1<(a.length:Int)))then (idx a b.1).bind λh=>bif (h==c)then some true else (idx a b.1).bind λi=>(ji i).bind λe=>bif e then (ji c).bind λf=>some f else some false else some false).bind λg=>some (b.1,g)) (λ_=>none)
noncomputable def mf (a:Entry) (b:Int):Option (Bool) :=
  ((aX b a.First a.Last).bind λf=>bif f then some true else (JO .i64 (w64 (b-a.First)) a.Every).bind λd=>bif (d != 0)then some true else (shlO .i64 1 (b.tmod 7)).bind λc=>some ((Cf .i64 a.Days c)==0)).bind λg=>bif g then some false else (d9 a.Except b).bind λe=>some (!e.2)
def nQ (a:Entry) (c:Int) (b:Int):Option (Window) :=
  (bif (decide ((w64 (a.To-a.From))<=0))then some (w64 ((w64 (a.To-a.From))+1440))else some (w64 (a.To-a.From))).bind λd=>some (⟨(w64 ((w64 ((w64 ((w64 (b*1440))+a.From))-c))*60000)),(w64 ((w64 ((w64 ((w64 ((w64 (b*1440))+a.From))-c))*60000))+(w64 (d*60000))))⟩:Window)
noncomputable def jR (d:Window) (e:Int) (b:Entry) (a:(List Window)×Int):Option (Ctl ((List Window)×Int) (Unit)) :=
  bif (decide (a.2<=(zi (w64 ((w64 ((w64 (d.To+(w64 (e*60000)))).tdiv 86400000))+1)) b.Last)))then (mf b a.2).bind λg=>bif (!g)then some (.go (a.1,(w64 (a.2+1))))else (nQ b e a.2).bind λc=>(bif (decide (c.From<d.To))then some (decide (c.To>d.From))else some false).bind λh=>(bif h then (iJ a.1 ([c]:List Window)).bind λf=>some f else some a.1).bind λi=>some (.go (i,(w64 (a.2+1))))else some (.brk (a.1,a.2))
noncomputable def lZ (b:Entry) (c:Int) (a:Window):Option ((List Window)) :=
  (bif b.Gone then some true else some (decide (a.From>=a.To))).bind λf=>bif f then some ([]:(List Window))else (fZ (([]:List Window),(jc (w64 ((w64 ((w64 (a.From+(w64 (c*60000)))).tdiv 86400000))-2)) b.First)) (λs=>jR a c b s)).bind λd=>thenC d (λe=>some e.1) (λ_=>none)
def vR (a:Window) (b:Window):Option (Window) :=
  some (⟨(jc a.From b.From),(zi a.To b.To)⟩:Window)
def lS (e:Window) (a:Nat) (g:Nat) (b:(List Window)):Option (Ctl ((List Window)) (Unit)) :=
  (inR (a:Int) b).bind λ_=>(b[(0+((a:Int)).toNat)]?).bind λc=>(vR c e).bind λd=>(inR (a:Int) b).bind λ_=>(b[(0+((a:Int)).toNat)]?).bind λf=>some (.go (b.set (0+((a:Int)).toNat) d))
noncomputable def l7 (b:Entry) (f:Int) (a:Window):Option ((List Window)×Int) :=
  (iw ([b]:List Entry)).bind λe=>bif (e != 0)then some (([]:(List Window)),e)else (aX f (-1440) 1440).bind λh=>bif h then some (([]:(List Window)),1)else (jX a).bind λc=>bif (c != 0)then some (([]:(List Window)),c)else (lZ b f a).bind λd=>(forL (List.range ((d.length:Int)).toNat) d (λk x s=>lS a k x s)).bind λg=>thenC g (λi=>some (i,0)) (λ_=>none)
noncomputable def fu  : Option (Bool) :=
  (qj ([(⟨0,0,2,2⟩:Rect),(⟨1,1,2,2⟩:Rect)]:List Rect)).bind λa=>(qp (⟨(⟨#[97]⟩:ByteArray),(⟨#[]⟩:ByteArray),(⟨0,100⟩:Window),([]:List ByteArray),10,0,0⟩:Campaign) 50).bind λb=>(qx ([(⟨(⟨#[112]⟩:ByteArray),0,100⟩:Beat),(⟨(⟨#[112]⟩:ByteArray),1000,1300⟩:Beat)]:List Beat) (⟨#[112]⟩:ByteArray) 700).bind λc=>(l7 (⟨(⟨#[97]⟩:ByteArray),(⟨#[98]⟩:ByteArray),0,0,0,1,127,([]:List Int),1,2,0,([]:List ByteArray),false⟩:Entry) 0 (⟨0,86400000⟩:Window)).bind λd=>(bif (a.2==0)then bif (b.2==0)then bif (c.2==0)then bif (d.2==0)then bif (a.1==7)then bif (b.1==5)then bif (c.1==500)then some ((d.1.length:Int)==1)else some false else some false else some false else some false else some false else some false else some false).bind λe=>some e
def rE (x0:ByteArray) (x1:ByteArray):Option (ByteArray) :=
  I4 x0 x1
def mZ (a:ByteArray):Option (Bool) :=
  (bif ((a.size:Int)==16)then (rE a (⟨#[48,49,50,51,52,53,54,55,56,57,97,98,99,100,101,102]⟩:ByteArray)).bind λb=>some (sEq b (⟨#[]⟩:ByteArray))else some false).bind λc=>some c
def lF (a:ByteArray):Option (Int) :=
  (bif (sNe a (⟨#[]⟩:ByteArray))then (mZ a).bind λb=>some (!b)else some false).bind λc=>bif c then some 3 else some 0
def dU (b:(List Log_)):Option ((List Log_)) :=
  (iJ [] b).bind λa=>some a
noncomputable def ku (a:Log_):Option (Int) :=
  ((fO a.Player).bind λe=>bif (!e)then some true else (fO a.Item).bind λf=>some (!f)).bind λh=>bif h then some 5 else ((aX a.No 1 1000000).bind λb=>bif b then some true else (aX a.Clock 0 345686399999).bind λc=>bif c then some true else (aX a.Long 1 86400000).bind λd=>some d).bind λg=>bif g then some 1 else some 0
def strconv_Itoa (x0:Int):Option (ByteArray) :=
  Nt x0
def si (a:Log_):Option (ByteArray) :=
  (yD a.Player (⟨#[32]⟩:ByteArray)).bind λj=>(yD j a.Item).bind λk=>(yD k (⟨#[32]⟩:ByteArray)).bind λl=>(strconv_Itoa a.No).bind λd=>(yD l d).bind λe=>(yD e (⟨#[32]⟩:ByteArray)).bind λf=>(strconv_Itoa a.Clock).bind λb=>(yD f b).bind λg=>(yD g (⟨#[32]⟩:ByteArray)).bind λh=>(strconv_Itoa a.Long).bind λc=>(yD h c).bind λi=>some i
def fG (a:Int):Option (Bool) :=
  some ((Cf .i64 a (w64 (a-1)))==0)
def kD (x0:Int):Option (Int) :=
  tzF x0
def bJ (b:Int) (e:Int) (a:(List Int)×Int×Int):Option (Ctl ((List Int)×Int×Int) (Unit)) :=
  bif (decide (a.2.1>=(IntKind.u64.wrap b)))then (zF (⟨#[48,49,50,51,52,53,54,55,56,57,97,98,99,100,101,102,103,104,105,106,107,108,109,110,111,112,113,114,115,116,117,118,119,120,121,122]⟩:ByteArray) (Cf .u64 a.2.1 (IntKind.u64.wrap ((IntKind.u64.wrap b)-1)))).bind λc=>(inN (w64 (a.2.2-1)) 65).bind λ_=>(a.1[((w64 (a.2.2-1))).toNat]?).bind λf=>(Dm .u64 a.2.1 (IntKind.u64.wrap e)).bind λd=>some (.go ((a.1.set ((w64 (a.2.2-1))).toNat (c.toNat:Int)),d,(w64 (a.2.2-1))))else some (.brk (a.1,a.2.1,a.2.2))
def iG (b:Int) (a:(List Int)×Int×Int):Option (Ctl ((List Int)×Int×Int) (Unit)) :=
  bif (decide (a.2.1>=(IntKind.u64.wrap b)))then (FK .u64 a.2.1 (IntKind.u64.wrap b)).bind λc=>(zF (⟨#[48,49,50,51,52,53,54,55,56,57,97,98,99,100,101,102,103,104,105,106,107,108,109,110,111,112,113,114,115,116,117,118,119,120,121,122]⟩:ByteArray) (IntKind.u64.wrap (a.2.1-(IntKind.u64.wrap (c*(IntKind.u64.wrap b)))))).bind λd=>(inN (w64 (a.2.2-1)) 65).bind λ_=>(a.1[((w64 (a.2.2-1))).toNat]?).bind λe=>some (.go ((a.1.set ((w64 (a.2.2-1))).toNat (d.toNat:Int)),c,(w64 (a.2.2-1))))else some (.brk (a.1,a.2.1,a.2.2))
noncomputable def eD (q:(List Int)) (g:Int) (c:Int) (f:Bool) (i:Bool):Option ((List Int)×ByteArray) :=
  (bif (decide (c<2))then some true else bif (c==10)then some true else some (decide (c>36))).bind λp=>(bif p then none else some ()).bind λv=>(bif f then some (IntKind.u64.wrap (0-g))else some g).bind λh=>(fG c).bind λn=>(bif n then (kD (IntKind.u64.wrap c)).bind λo=>(fZ ((List.replicate 65 (0:Int)),h,65) (λs=>bJ c o s)).bind λl=>thenC l (λd=>(zF (⟨#[48,49,50,51,52,53,54,55,56,57,97,98,99,100,101,102,103,104,105,106,107,108,109,110,111,112,113,114,115,116,117,118,119,120,121,122]⟩:ByteArray) d.2.1).bind λj=>(inN (w64 (d.2.2-1)) 65).bind λ_=>(d.1[((w64 (d.2.2-1))).toNat]?).bind λr=>some ((d.1.set ((w64 (d.2.2-1))).toNat (j.toNat:Int)),(w64 (d.2.2-1)))) (λ_=>none)else (fZ ((List.replicate 65 (0:Int)),h,65) (λs=>iG c s)).bind λm=>thenC m (λe=>(zF (⟨#[48,49,50,51,52,53,54,55,56,57,97,98,99,100,101,102,103,104,105,106,107,108,109,110,111,112,113,114,115,116,117,118,119,120,121,122]⟩:ByteArray) e.2.1).bind λk=>(inN (w64 (e.2.2-1)) 65).bind λ_=>(e.1[((w64 (e.2.2-1))).toNat]?).bind λt=>some ((e.1.set ((w64 (e.2.2-1))).toNat (k.toNat:Int)),(w64 (e.2.2-1)))) (λ_=>none)).bind λb=>(bif f then (inN (w64 (b.2-1)) 65).bind λ_=>(b.1[((w64 (b.2-1))).toNat]?).bind λu=>some ((b.1.set ((w64 (b.2-1))).toNat 45),(w64 (b.2-1)))else some (b.1,b.2)).bind λa=>bif i then (uT a.1 65).bind λ_=>(wP a.1 a.2 (a.1.length:Int)).bind λ_=>none else (uT a.1 65).bind λ_=>(wP a.1 a.2 (a.1.length:Int)).bind λ_=>some (([]:(List Int)),(Go.strOfNums (Dh a.1 ((a.2).toNat) (((a.1.length:Int)).toNat-(a.2).toNat))))
noncomputable def gU (b:Int) (a:Int):Option (ByteArray) :=
  bif (a==10)then bif (decide (b<100))then none else none else (eD ([]:List Int) b a false false).bind λc=>some c.2
noncomputable def jl (b:Int) (a:Int):Option (ByteArray) :=
  (gU b a).bind λc=>some c
def strings_Repeat (x0:ByteArray) (x1:Int):Option (ByteArray) :=
  Dn x0 x1
def nG (c:ByteArray) (b:Nat) (e:Nat) (d:Int):Option (Ctl (Int) (Unit)) :=
  (zF c (b:Int)).bind λa=>some (.go (IntKind.u64.wrap ((O0 .u64 d (IntKind.u64.wrap (a.toNat:Int)))*1099511628211)))
noncomputable def pU (b:ByteArray):Option (ByteArray) :=
  (forL (List.range ((b.size:Int)).toNat) 14695981039346656037 (λk x s=>nG b k x s)).bind λc=>thenC c (λf=>(jl f 16).bind λa=>(strings_Repeat (⟨#[48]⟩:ByteArray) (w64 (16-(a.size:Int)))).bind λd=>(yD d a).bind λe=>some e) (λ_=>none)
noncomputable def uL (b:ByteArray) (a:Log_):Option (ByteArray) :=
  (yD b (⟨#[32]⟩:ByteArray)).bind λe=>(si a).bind λd=>(yD e d).bind λf=>(pU f).bind λc=>some c
noncomputable def kN (e:(List Log_)) (a:Nat) (d:Log_) (c:(List Log_)×ByteArray):Option (Ctl ((List Log_)×ByteArray) ((List Log_)×Int)) :=
  (ku d).bind λf=>bif (f != 0)then some (.ret (([]:(List Log_)),f))else (bif (decide ((a:Int)>0))then (idx e 0).bind λj=>some (sNe d.Player j.Player)else some false).bind λh=>bif h then some (.ret (([]:(List Log_)),13))else (bif (decide ((a:Int)>0))then (idx e (w64 ((a:Int)-1))).bind λk=>some (d.No != (w64 (k.No+1)))else some false).bind λi=>bif i then some (.ret (([]:(List Log_)),16))else (uL c.2 d).bind λg=>(inR (a:Int) c.1).bind λ_=>(c.1[(0+((a:Int)).toNat)]?).bind λb=>some (.go ((c.1.set (0+((a:Int)).toNat) (⟨b.Player,b.Item,b.No,b.Clock,b.Long,g⟩:Log_)),g))
noncomputable def mo (b:ByteArray) (a:(List Log_)):Option ((List Log_)×Int) :=
  (lF b).bind λc=>bif (c != 0)then some (([]:(List Log_)),c)else bif (decide ((a.length:Int)>2000))then some (([]:(List Log_)),2)else (dU a).bind λe=>(forL a (e,b) (λk x s=>kN a k x s)).bind λd=>thenC d (λf=>some (f.1,0)) (λr=>some r)
def jT (a:Log_) (b:Log_):Option (Int) :=
  (strings_Compare a.Player b.Player).bind λc=>(cmp_Compare_int a.No b.No).bind λd=>(pJ ([c,d]:List Int)).bind λe=>some e
noncomputable def kZ (d:(List Log_)) (b:Nat) (a:Log_) (i:Unit):Option (Ctl (Unit) (Int)) :=
  (ku a).bind λc=>bif (c != 0)then some (.ret c)else (mZ a.Sum).bind λe=>bif (!e)then some (.ret 3)else (bif (decide ((b:Int)>0))then (idx d (w64 ((b:Int)-1))).bind λh=>(jT h a).bind λf=>some (decide (f>=0))else some false).bind λg=>bif g then some (.ret 7)else some (.go ())
noncomputable def jL (a:(List Log_)):Option (Int) :=
  bif (decide ((a.length:Int)>2000))then some 2 else (forL a () (λk x s=>kZ a k x s)).bind λb=>thenC b (λc=>some 0) (λr=>some r)
def kw (b:Placed) (c:Placed):Option (Int) :=
  (cmp_Compare_int b.f_at c.f_at).bind λa=>some a
def dE (c:Int) (a:(List Placed)×Int):Option (Ctl ((List Placed)×Int) (Unit)) :=
  (bif (decide (a.2>c))then (inR a.2 a.1).bind λ_=>(a.1[(0+(a.2).toNat)]?).bind λd=>(inR (w64 (a.2-1)) a.1).bind λ_=>(a.1[(0+((w64 (a.2-1))).toNat)]?).bind λe=>(kw d e).bind λg=>some (decide (g<0))else some false).bind λh=>bif h then (inR (w64 (a.2-1)) a.1).bind λ_=>(a.1[(0+((w64 (a.2-1))).toNat)]?).bind λb=>(inR a.2 a.1).bind λ_=>(a.1[(0+(a.2).toNat)]?).bind λf=>(inR a.2 a.1).bind λ_=>(a.1[(0+(a.2).toNat)]?).bind λi=>(inR (w64 (a.2-1)) (a.1.set (0+(a.2).toNat) b)).bind λ_=>((a.1.set (0+(a.2).toNat) b)[(0+((w64 (a.2-1))).toNat)]?).bind λj=>some (.go (((a.1.set (0+(a.2).toNat) b).set (0+((w64 (a.2-1))).toNat) f),(w64 (a.2-1))))else some (.brk (a.1,a.2))
noncomputable def dD (c:Int) (b:Int) (a:(List Placed)×Int):Option (Ctl ((List Placed)×Int) (Unit)) :=
  bif (decide (a.2<c))then (fZ (a.1,a.2) (λs=>dE b s)).bind λd=>thenC d (λe=>some (.go (e.1,(w64 (a.2+1))))) (λ_=>none)else some (.brk (a.1,a.2))
noncomputable def cB (c:(List Placed)) (a:Int) (b:Int):Option ((List Placed)) :=
  (fZ (c,(w64 (a+1))) (λs=>dD b a s)).bind λd=>thenC d (λe=>some e.1) (λ_=>none)
noncomputable def eO (c:Int) (a:(List Placed)×Int×Int):Option (Ctl ((List Placed)×Int×Int) (Unit)) :=
  bif (decide (a.2.2<=c))then (cB a.1 a.2.1 a.2.2).bind λb=>(j5 b a.1).bind λ_=>some (.go (b,a.2.2,(w64 (a.2.2+20))))else some (.brk (a.1,a.2.1,a.2.2))
def eF (b:Int) (a:Int) (c:Unit):Option (Ctl (Unit) (Unit)) :=
  bif (decide ((w64 (2*b))<=a))then none else some (.brk ())
noncomputable def eG (b:Int) (a:Int):Option (Ctl (Int) (Unit)) :=
  bif (decide (a<b))then (fZ () (λs=>eF a b s)).bind λc=>thenC c (λd=>(bif (decide ((w64 (0+a))<b))then none else some ()).bind λe=>some (.go (w64 (a*2)))) (λ_=>none)else some (.brk a)
noncomputable def dK (d:(List Placed)) (a:Int):Option ((List Placed)) :=
  (fZ (d,0,20) (λs=>eO a s)).bind λe=>thenC e (λb=>(cB b.1 b.2.1 a).bind λc=>(j5 c b.1).bind λ_=>(fZ 20 (λs=>eG a s)).bind λf=>thenC f (λg=>some c) (λ_=>none)) (λ_=>none)
noncomputable def bB (a:(List Placed)):Option ((List Placed)) :=
  (dK a (a.length:Int)).bind λb=>(j5 b a).bind λ_=>some b
noncomputable def fH (i:Int) (c:(List Log_)) (h:(List Beat_)) (a:(List Placed)×(List Int)×Int):Option (Ctl ((List Placed)×(List Int)×Int) (Unit)) :=
  bif (decide (a.2.2<i))then (idx c a.2.2).bind λj=>(gZ h j.Clock).bind λb=>(bif (b.2==0)then (iJ a.1 ([(⟨a.2.2,b.1⟩:Placed)]:List Placed)).bind λe=>some (e,a.2.1)else bif (b.2==8)then (idx c a.2.2).bind λk=>(iJ a.1 ([(⟨a.2.2,k.Clock⟩:Placed)]:List Placed)).bind λf=>some (f,a.2.1)else (iJ a.2.1 ([a.2.2]:List Int)).bind λg=>some (a.1,g)).bind λd=>some (.go (d.1,d.2,(w64 (a.2.2+1))))else some (.brk (a.1,a.2.1,a.2.2))
noncomputable def mh (c:(List Log_)) (b:Int) (h:Int) (e:(List Beat)):Option ((List Placed)×(List Int)) :=
  (idx c b).bind λi=>(j3 e i.Player false).bind λg=>(fZ (([]:List Placed),([]:List Int),b) (λs=>fH h c g s)).bind λf=>thenC f (λa=>(bB a.1).bind λd=>(j5 d a.1).bind λ_=>some (d,a.2.1)) (λ_=>none)
def iO (b:(List Log_)) (c:(List Play)×(List Int)×Int) (a:Int):Option (Ctl (Int) (Unit)) :=
  (bif (decide (a<(b.length:Int)))then (idx b a).bind λe=>(idx b c.2.2).bind λf=>some (sEq e.Player f.Player)else some false).bind λd=>bif d then some (.go (w64 (a+1)))else some (.brk a)
def kP (f:(List Log_)) (i:Nat) (b:Placed) (a:(List Play)×(List Int)×Int):Option (Ctl ((List Play)×(List Int)×Int) (Unit)) :=
  (idx f b.f_i).bind λc=>(bif (decide ((jc b.f_at a.2.2)>=(w64 (b.f_at+c.Long))))then some true else (bR (jc b.f_at a.2.2)).bind λg=>some (!g)).bind λh=>bif h then (iJ a.2.1 ([b.f_i]:List Int)).bind λd=>some (.go (a.1,d,a.2.2))else (iJ a.1 ([(⟨c.Player,c.Item,(jc b.f_at a.2.2),(w64 ((w64 (b.f_at+c.Long))-(jc b.f_at a.2.2)))⟩:Play)]:List Play)).bind λe=>some (.go (e,a.2.1,(w64 (b.f_at+c.Long))))
noncomputable def iM (b:(List Log_)) (g:(List Beat)) (a:(List Play)×(List Int)×Int):Option (Ctl ((List Play)×(List Int)×Int) (Unit)) :=
  bif (decide (a.2.2<(b.length:Int)))then (fZ a.2.2 (λs=>iO b a s)).bind λh=>thenC h (λd=>(mh b a.2.2 d g).bind λc=>(iJ a.2.1 c.2).bind λf=>(forL c.1 (a.1,f,0) (λk x s=>kP b k x s)).bind λi=>thenC i (λe=>some (.go (e.1,e.2.1,d))) (λ_=>none)) (λ_=>none)else some (.brk (a.1,a.2.1,a.2.2))
noncomputable def om (c:(List Log_)) (b:(List Beat)):Option ((List Play)×(List Int)×Int) :=
  (jL c).bind λd=>bif (d != 0)then some (([]:(List Play)),([]:(List Int)),d)else (fq b).bind λe=>bif (e != 0)then some (([]:(List Play)),([]:(List Int)),e)else (fZ (([]:List Play),([]:List Int),0) (λs=>iM c b s)).bind λg=>thenC g (λa=>(cK a.2.1).bind λf=>(j5 f a.2.1).bind λ_=>some (a.1,f,0)) (λ_=>none)
noncomputable def iQ (h:Nat) (a:Play) (i:Unit):Option (Ctl (Unit) (Int)) :=
  ((fO a.Player).bind λb=>bif (!b)then some true else (fO a.Item).bind λc=>some (!c)).bind λf=>bif f then some (.ret 5)else ((bR a.At).bind λd=>bif (!d)then some true else (aX a.Long 1 86400000).bind λe=>some e).bind λg=>bif g then some (.ret 1)else some (.go ())
noncomputable def jO (d:(List Campaign)) (a:(List Play)) (c:Int):Option (Int) :=
  (cO d).bind λb=>bif (b != 0)then some b else bif (decide ((a.length:Int)>3000))then some 2 else (forL a () (λk x s=>iQ k x s)).bind λe=>thenC e (λg=>(bR c).bind λf=>bif (!f)then some 1 else some 0) (λr=>some r)
def kz (b:Campaign) (d:Int) (g:Nat) (a:Play) (c:Int):Option (Ctl (Int) (Unit)) :=
  (bif (sEq a.Item b.Key)then bif (decide (b.Time.From<=a.At))then bif (decide (a.At<b.Time.To))then some (decide (a.At<d))else some false else some false else some false).bind λe=>(bif e then some (w64 (c+1))else some c).bind λf=>some (.go f)
def ng (b:Int) (e:(List Play)) (i:Nat) (a:Campaign) (h:(List Pace)):Option (Ctl ((List Pace)) (Unit)) :=
  (mK a b).bind λf=>(forL e 0 (λk x s=>kz a b k x s)).bind λd=>thenC d (λg=>(iJ h ([(⟨a.Key,f,g⟩:Pace)]:List Pace)).bind λc=>some (.go c)) (λ_=>none)
def nL (b:(List Campaign)) (d:(List Play)) (a:Int):Option ((List Pace)) :=
  (forL b ([]:List Pace) (λk x s=>ng a d k x s)).bind λc=>thenC c (λe=>some e) (λ_=>none)
noncomputable def nH (b:(List Campaign)) (c:(List Play)) (a:Int):Option ((List Pace)×Int) :=
  (jO b c a).bind λd=>bif (d != 0)then some (([]:(List Pace)),d)else (nL b c a).bind λe=>some (e,0)
def dF (c:Share) (d:Nat) (e:Nat) (a:(List Log_)×Int):Option (Ctl ((List Log_)×Int) (Unit)) :=
  (iJ a.1 ([(⟨(⟨#[112,97]⟩:ByteArray),c.Campaign,(w64 ((a.1.length:Int)+1)),(w64 (1000*a.2)),1,(⟨#[]⟩:ByteArray)⟩:Log_)]:List Log_)).bind λb=>some (.go (b,(w64 (a.2+1))))
def dG (e:Spot) (f:Nat) (b:Share) (a:(List Log_)×Int):Option (Ctl ((List Log_)×Int) (Unit)) :=
  bif (sNe b.Spot e.Key)then some (.go (a.1,a.2))else (forL (List.range (b.Many).toNat) (a.1,a.2) (λk x s=>dF b k x s)).bind λd=>thenC d (λc=>some (.go (c.1,c.2))) (λ_=>none)
noncomputable def cZ (e:(List Share)×Int) (g:Nat) (a:Spot) (f:(List Log_)):Option (Ctl ((List Log_)) (Bool)) :=
  (forL e.1 (f,a.Time.From) (λk x s=>dG a k x s)).bind λc=>thenC c (λb=>bif (decide (b.2>a.Time.To))then (fu).bind λd=>some (.ret d)else some (.go b.1)) (λ_=>none)
def dH (a:Nat) (e:Nat) (b:(List Play)):Option (Ctl ((List Play)) (Unit)) :=
  (inR (a:Int) b).bind λ_=>(b[(0+((a:Int)).toNat)]?).bind λd=>(inR (a:Int) b).bind λ_=>(b[(0+((a:Int)).toNat)]?).bind λc=>some (.go (b.set (0+((a:Int)).toNat) (⟨c.Player,c.Item,(w64 (d.At.tdiv 1000)),c.Long⟩:Play)))
def ek (b:(List Campaign)×Stream) (a:Nat) (c:Pace) (g:Unit):Option (Ctl (Unit) (Bool)) :=
  ((idx b.1 (a:Int)).bind λe=>bif (c.Done != e.Goal)then some true else (idx b.1 (a:Int)).bind λf=>some (c.Due != f.Goal)).bind λd=>bif d then some (.ret false)else some (.go ())
noncomputable def iL (h:(List Int)):Option (Bool) :=
  (eU (⟨h,0⟩:Stream)).bind λc=>(dZ c.2 3).bind λb=>(kY c.1 b.1).bind λd=>bif (d.2 != 0)then (bif (d.2==12)then (fu).bind λn=>some n else some false).bind λp=>some p else (forL c.1 ([]:List Log_) (λk x s=>cZ d k x s)).bind λj=>thenC j (λg=>(mo (⟨#[]⟩:ByteArray) g).bind λf=>(om f.1 ([]:List Beat)).bind λa=>(bif (f.2 != 0)then some true else bif (a.2.2 != 0)then some true else bif ((a.2.1.length:Int) != 0)then some true else some ((a.1.length:Int) != (g.length:Int))).bind λq=>bif q then some false else (forL (List.range ((a.1.length:Int)).toNat) a.1 (λk x s=>dH k x s)).bind λl=>thenC l (λo=>(nH b.1 o 200).bind λe=>(bif (e.2 != 0)then some true else some ((e.1.length:Int) != (b.1.length:Int))).bind λt=>bif t then some false else (forL e.1 () (λk x s=>ek b k x s)).bind λi=>thenC i (λu=>(fu).bind λm=>some m) (λr=>some r)) (λ_=>none)) (λr=>some r)
end Go.Proofs.YtkjlhdminmpmkaaGreatDoor.Law

