/-
  The functions of the program, as plain functions over data (written by a program of ours).
-/
import Derived.Test.YtadpbmfnnlkdlabGreatDoorEng5
open Go Go.Eng
namespace Go.Proofs.YtadpbmfnnlkdlabGreatDoor.Law
set_option maxRecDepth 100000
set_option linter.unusedVariables false
set_option maxHeartbeats 1000000
structure Stream where
  L:(List Int)
  f_at:Int
def Stream.enc (s:Stream):List D:=[dl eI s.L,.int .i64 s.f_at]

structure Entry where
  Key:ByteArray
  Item:ByteArray
  Version:Int
  First:Int
  Last:Int
  Every:Int
  Days:Int
  Except:(List Int)
  From:Int
  To:Int
  Prio:Int
  Tags:(List ByteArray)
  Gone:Bool
def Entry.enc (s:Entry):List D:=[.str s.Key,.str s.Item,.int .i64 s.Version,.int .i64 s.First,.int .i64 s.Last,.int .i64 s.Every,.int .i64 s.Days,dl eI s.Except,.int .i64 s.From,.int .i64 s.To,.int .i64 s.Prio,dl eS s.Tags,.bool s.Gone]
abbrev Entry.v (s:Entry):List V:=[(vS s.Key),(vS s.Item),(vI s.Version),(vI s.First),(vI s.Last),(vI s.Every),(vI s.Days),(vL eI s.Except),(vI s.From),(vI s.To),(vI s.Prio),(vL eS s.Tags),(vB s.Gone)]

structure Player where
  Key:ByteArray
  Screen:ByteArray
  Zone:Int
  Tags:(List ByteArray)
def Player.enc (s:Player):List D:=[.str s.Key,.str s.Screen,.int .i64 s.Zone,dl eS s.Tags]
abbrev Player.v (s:Player):List V:=[(vS s.Key),(vS s.Screen),(vI s.Zone),(vL eS s.Tags)]

def Entry.encW (s:Entry):List D:=[.str s.Key,.str s.Item,.int .i64 s.Version,.int .i64 s.First,.int .i64 s.Last,.int .i64 s.Every,.int .i64 s.Days,.wild 1 s.Except.length,.int .i64 s.From,.int .i64 s.To,.int .i64 s.Prio,.wild 1 s.Tags.length,.bool s.Gone]

structure Window where
  From:Int
  To:Int
def Window.enc (s:Window):List D:=[.int .i64 s.From,.int .i64 s.To]

structure Span where
  f_e:(Option Entry)
  f_time:Window
def Span.enc (s:Span):List D:=[dP Entry.enc s.f_e,.int .i64 s.f_time.From,.int .i64 s.f_time.To]
abbrev Span.v (s:Span):List V:=[(.d (dP Entry.enc s.f_e)),(vI s.f_time.From),(vI s.f_time.To)]

structure Slot_ where
  Time:Window
  Entry:ByteArray
def Slot_.enc (s:Slot_):List D:=[.int .i64 s.Time.From,.int .i64 s.Time.To,.str s.Entry]
abbrev Slot_.v (s:Slot_):List V:=[(vI s.Time.From),(vI s.Time.To),(vS s.Entry)]

structure Rect where
  X:Int
  Y:Int
  W:Int
  H:Int
def Rect.enc (s:Rect):List D:=[.int .i64 s.X,.int .i64 s.Y,.int .i64 s.W,.int .i64 s.H]
abbrev Rect.v (s:Rect):List V:=[(vI s.X),(vI s.Y),(vI s.W),(vI s.H)]

structure Run where
  f_from:Int
  f_to:Int
def Run.enc (s:Run):List D:=[.int .i64 s.f_from,.int .i64 s.f_to]

structure Campaign where
  Key:ByteArray
  Class:ByteArray
  Time:Window
  Tags:(List ByteArray)
  Goal:Int
  Most:Int
  Cents:Int
def Campaign.enc (s:Campaign):List D:=[.str s.Key,.str s.Class,.int .i64 s.Time.From,.int .i64 s.Time.To,dl eS s.Tags,.int .i64 s.Goal,.int .i64 s.Most,.int .i64 s.Cents]
abbrev Campaign.v (s:Campaign):List V:=[(vS s.Key),(vS s.Class),(vI s.Time.From),(vI s.Time.To),(vL eS s.Tags),(vI s.Goal),(vI s.Most),(vI s.Cents)]

structure Beat where
  Player:ByteArray
  At:Int
  Clock:Int
def Beat.enc (s:Beat):List D:=[.str s.Player,.int .i64 s.At,.int .i64 s.Clock]
abbrev Beat.v (s:Beat):List V:=[(vS s.Player),(vI s.At),(vI s.Clock)]

structure Beat_ where
  f_from:Int
  f_to:Int
def Beat_.enc (s:Beat_):List D:=[.int .i64 s.f_from,.int .i64 s.f_to]

structure Alert where
  Id:ByteArray
  Sender:ByteArray
  Kind:Int
  Refs:(List ByteArray)
  At:Int
  Until:Int
  Weight:Int
  Areas:(List Rect)
  Text:ByteArray
def Alert.enc (s:Alert):List D:=[.str s.Id,.str s.Sender,.int .i64 s.Kind,dl eS s.Refs,.int .i64 s.At,.int .i64 s.Until,.int .i64 s.Weight,dl Rect.enc s.Areas,.str s.Text]
abbrev Alert.v (s:Alert):List V:=[(vS s.Id),(vS s.Sender),(vI s.Kind),(vL eS s.Refs),(vI s.At),(vI s.Until),(vI s.Weight),(vL Rect.enc s.Areas),(vS s.Text)]

structure Post where
  Player:ByteArray
  X:Int
  Y:Int
def Post.enc (s:Post):List D:=[.str s.Player,.int .i64 s.X,.int .i64 s.Y]
abbrev Post.v (s:Post):List V:=[(vS s.Player),(vI s.X),(vI s.Y)]

def uG (d:Int) (a:Int):Option (Int) :=
  bif (decide (a<1))then some 0 else (Ke .i64 d a).bind λb=>(bif (decide (b<0))then some (w64 (b+a))else some b).bind λc=>some c
def ik (a:Stream) (b:Int):Option (Int×Stream) :=
  bif ((a.L.length:Int)==0)then (uG (w64 ((w64 (a.f_at+1))*7919)) b).bind λg=>some (g,(⟨a.L,(w64 (a.f_at+1))⟩:Stream))else (Ke .i64 (w64 ((w64 (a.f_at+1))-1)) (a.L.length:Int)).bind λc=>(L9 .i64 (w64 ((w64 (a.f_at+1))-1)) (a.L.length:Int)).bind λd=>(idx a.L c).bind λh=>(uG h 1073741824).bind λe=>(uG (w64 (e+(w64 (d*(w64 (7919+c)))))) b).bind λf=>some (f,(⟨a.L,(w64 (a.f_at+1))⟩:Stream))
def iq (c:Stream) (b:Int):Option (Bool×Stream) :=
  (ik c b).bind λa=>some ((a.1==0),a.2)
def ny (c:Stream) (a:(List ByteArray)):Option (ByteArray×Stream) :=
  (ik c (a.length:Int)).bind λb=>(idx a b.1).bind λd=>some (d,b.2)
def lM (d:Stream) (a:Int) (b:Int):Option (Int×Stream) :=
  bif (decide (b<a))then some (a,d)else (ik d (w64 ((w64 (b-a))+1))).bind λc=>some ((w64 (a+c.1)),c.2)
def eT (c:Stream) (a:(List Int)):Option (Int×Stream) :=
  (ik c (a.length:Int)).bind λb=>(idx a b.1).bind λd=>some (d,b.2)
def iH (f:Nat) (e:Int) (a:(List Int)×(List Int)×Int):Option (Ctl ((List Int)×(List Int)×Int) (Unit)) :=
  (iq (⟨a.2.1,a.2.2⟩:Stream) 4).bind λb=>(bif b.1 then (lm a.1 ([e]:List Int)).bind λc=>some c else some a.1).bind λd=>some (.go (d,b.2.L,b.2.f_at))
def iI (f:Nat) (e:ByteArray) (a:(List ByteArray)×(List Int)×Int):Option (Ctl ((List ByteArray)×(List Int)×Int) (Unit)) :=
  (iq (⟨a.2.1,a.2.2⟩:Stream) 4).bind λb=>(bif b.1 then (lm a.1 ([e]:List ByteArray)).bind λc=>some c else some a.1).bind λd=>some (.go (d,b.2.L,b.2.f_at))
def eG (u:Nat) (t:ByteArray) (b:(List Entry)×(List Int)×Int):Option (Ctl ((List Entry)×(List Int)×Int) (Unit)) :=
  (iq (⟨b.2.1,b.2.2⟩:Stream) 4).bind λa=>bif a.1 then some (.go (b.1,a.2.L,a.2.f_at))else (ny a.2 ([(⟨#[105,97]⟩:ByteArray),(⟨#[105,98]⟩:ByteArray),(⟨#[105,99]⟩:ByteArray)]:List ByteArray)).bind λg=>(lM g.2 0 2).bind λh=>(eT h.2 ([0,0,1,3]:List Int)).bind λc=>(eT c.2 ([1,1,2,3,7]:List Int)).bind λi=>(eT i.2 ([127,127,31,96,1,2]:List Int)).bind λj=>(eT j.2 ([0,0,60,600,1380]:List Int)).bind λl=>(eT l.2 ([0,60,120,600,720,1439]:List Int)).bind λm=>(eT m.2 ([0,0,1,5]:List Int)).bind λn=>(iq n.2 8).bind λo=>(eT o.2 ([0,1,5,10,30]:List Int)).bind λd=>(forL ([1,2,8]:List Int) (([]:List Int),d.2.L,d.2.f_at) (λk x s=>iH k x s)).bind λq=>thenC q (λe=>(forL ([(⟨#[99,105,116,121]⟩:ByteArray),(⟨#[109,97,108,108]⟩:ByteArray)]:List ByteArray) (([]:List ByteArray),e.2.1,e.2.2) (λk x s=>iI k x s)).bind λr=>thenC r (λf=>(lm b.1 ([(⟨t,g.1,h.1,c.1,(w64 (c.1+d.1)),i.1,j.1,e.1,l.1,m.1,n.1,f.1,o.1⟩:Entry)]:List Entry)).bind λp=>some (.go (p,f.2.1,f.2.2))) (λ_=>none)) (λ_=>none)
def fM (b:Stream):Option ((List Entry)×Stream) :=
  (forL ([(⟨#[101,97]⟩:ByteArray),(⟨#[101,98]⟩:ByteArray),(⟨#[101,99]⟩:ByteArray),(⟨#[101,100]⟩:ByteArray)]:List ByteArray) (([]:List Entry),b.L,b.f_at) (λk x s=>eG k x s)).bind λc=>thenC c (λa=>some (a.1,(⟨a.2.1,a.2.2⟩:Stream))) (λ_=>none)
def gu (c:Stream):Option (Player×Stream) :=
  (eT c ([0,0,60,(-90),1440]:List Int)).bind λa=>(ik a.2 3).bind λb=>(idx ([([]:List ByteArray),([(⟨#[99,105,116,121]⟩:ByteArray)]:List ByteArray),([(⟨#[99,105,116,121]⟩:ByteArray),(⟨#[109,97,108,108]⟩:ByteArray)]:List ByteArray)]:List (List ByteArray)) b.1).bind λd=>some ((⟨(⟨#[112]⟩:ByteArray),(⟨#[115,97]⟩:ByteArray),a.1,d⟩:Player),b.2)
def j6 (c:ByteArray) (b:Int):Option (Ctl (Int) (Bool)) :=
  bif (decide (b<(c.size:Int)))then (qH c b).bind λa=>(bif (decide ((a.toNat:Int)>=97))then bif (decide ((a.toNat:Int)<=122))then some false else bif (decide (b>0))then bif (decide ((a.toNat:Int)>=48))then bif (decide ((a.toNat:Int)<=57))then some false else bif ((a.toNat:Int)==45)then some false else some (!((a.toNat:Int)==95))else bif ((a.toNat:Int)==45)then some false else some (!((a.toNat:Int)==95))else some true else bif (decide (b>0))then bif (decide ((a.toNat:Int)>=48))then bif (decide ((a.toNat:Int)<=57))then some false else bif ((a.toNat:Int)==45)then some false else some (!((a.toNat:Int)==95))else bif ((a.toNat:Int)==45)then some false else some (!((a.toNat:Int)==95))else some true).bind λd=>bif d then some (.ret false)else some (.go (w64 (b+1)))else some (.brk b)
noncomputable def fG (a:ByteArray):Option (Bool) :=
  (iV 0 (λs=>j6 a s)).bind λb=>thenC b (λd=>(bif (sNe a (⟨#[]⟩:ByteArray))then some (decide ((a.size:Int)<=40))else some false).bind λc=>some c) (λr=>some r)
def aR (a:Int) (c:Int) (b:Int):Option (Bool) :=
  (bif (decide (a<c))then some true else some (decide (a>b))).bind λd=>some d
def wV (a:Int):Option (Bool) :=
  (bif (decide (a>=0))then some (decide (a<=4000))else some false).bind λb=>some b
def ji (c:(List Int)) (a:Nat) (b:Int) (g:Unit):Option (Ctl (Unit) (Int)) :=
  (wV b).bind λd=>bif (!d)then some (.ret 1)else (bif (decide ((a:Int)>0))then (idx c (w64 ((a:Int)-1))).bind λf=>some (decide (b<=f))else some false).bind λe=>bif e then some (.ret 7)else some (.go ())
def gP (a:(List Int)):Option (Int) :=
  bif (decide ((a.length:Int)>100))then some 2 else (forL a () (λk x s=>ji a k x s)).bind λb=>thenC b (λc=>some 0) (λr=>some r)
noncomputable def iP (c:(List ByteArray)) (a:Nat) (b:ByteArray) (g:Unit):Option (Ctl (Unit) (Int)) :=
  (fG b).bind λd=>bif (!d)then some (.ret 5)else (bif (decide ((a:Int)>0))then (idx c (w64 ((a:Int)-1))).bind λf=>some (sLe b f)else some false).bind λe=>bif e then some (.ret 7)else some (.go ())
noncomputable def jq (a:(List ByteArray)):Option (Int) :=
  (forL a () (λk x s=>iP a k x s)).bind λb=>thenC b (λc=>some 0) (λr=>some r)
noncomputable def fF (a:(List ByteArray)):Option (Int) :=
  bif (decide ((a.length:Int)>20))then some 2 else (jq a).bind λb=>some b
noncomputable def fQ (a:Entry):Option (Int) :=
  ((fG a.Key).bind λk=>bif (!k)then some true else (fG a.Item).bind λl=>some (!l)).bind λo=>bif o then some 5 else ((aR a.Version 0 1000000).bind λc=>bif c then some true else (aR a.First 0 a.Last).bind λd=>bif d then some true else bif (decide (a.Last>4000))then some true else (aR a.Every 1 400).bind λe=>bif e then some true else (aR a.Days 1 127).bind λf=>some f).bind λm=>bif m then some 1 else (gP a.Except).bind λb=>bif (b != 0)then some b else ((aR a.From 0 1439).bind λg=>bif g then some true else (aR a.To 0 1439).bind λh=>bif h then some true else (aR a.Prio 0 9).bind λi=>some i).bind λn=>bif n then some 1 else (fF a.Tags).bind λj=>some j
noncomputable def eY (d:(List Entry)) (a:Nat) (c:Entry) (g:Unit):Option (Ctl (Unit) (Int)) :=
  (fQ c).bind λb=>bif (b != 0)then some (.ret b)else (bif (decide ((a:Int)>0))then (idx d (w64 ((a:Int)-1))).bind λf=>some (sLe c.Key f.Key)else some false).bind λe=>bif e then some (.ret 7)else some (.go ())
noncomputable def di (a:(List Entry)):Option (Int) :=
  bif (decide ((a.length:Int)>200))then some 2 else (forL a () (λk x s=>eY a k x s)).bind λb=>thenC b (λc=>some 0) (λr=>some r)
def dL (a:Int):Option Bool :=
  bif (decide (a<0))then none else bif (decide ((w64 (a-(w64 (0-0))))>0))then (zN (w64 (a-(w64 (0-0)))) 152).bind λ_=>some true else some false
def bC (c:Nat) (b:(List Entry)) (a:Int):Option (Ctl (Int) (Unit)) :=
  (bif (decide ((w64 (a+(b.length:Int)))<0))then none else some ()).bind λd=>some (.go (w64 (a+(b.length:Int))))
def bE (d:Nat) (c:(List Entry)) (b:(List Entry)):Option (Ctl ((List Entry)) (Unit)) :=
  (lm b c).bind λa=>some (.go a)
def dx (a:(List (List Entry))):Option ((List Entry)) :=
  (forL a 0 (λk x s=>bC k x s)).bind λb=>thenC b (λe=>(dL e).bind λf=>(forL a ([]:List Entry) (λk x s=>bE k x s)).bind λc=>thenC c (λd=>some d) (λ_=>none)) (λ_=>none)
def gX (s2_2:(List Int)) (a:Nat) (b:Int) (d:Unit):Option (Ctl (Unit) (Bool)) :=
  (idx s2_2 (a:Int)).bind λc=>bif (b != c)then some (.ret false)else some (.go ())
def je (s1_1:(List Int)) (s2_2:(List Int)):Option (Bool) :=
  bif ((s1_1.length:Int) != (s2_2.length:Int))then some false else (forL s1_1 () (λk x s=>gX s2_2 k x s)).bind λa=>thenC a (λb=>some true) (λr=>some r)
def eF (s2_2:(List ByteArray)) (a:Nat) (b:ByteArray) (d:Unit):Option (Ctl (Unit) (Bool)) :=
  (idx s2_2 (a:Int)).bind λc=>bif (sNe b c)then some (.ret false)else some (.go ())
def ek (s1_1:(List ByteArray)) (s2_2:(List ByteArray)):Option (Bool) :=
  bif ((s1_1.length:Int) != (s2_2.length:Int))then some false else (forL s1_1 () (λk x s=>eF s2_2 k x s)).bind λa=>thenC a (λb=>some true) (λr=>some r)
def vW (a:Entry) (b:Entry):Option (Bool) :=
  (bif (sEq a.Key b.Key)then bif (sEq a.Item b.Item)then bif (a.Version==b.Version)then bif (a.First==b.First)then bif (a.Last==b.Last)then bif (a.Every==b.Every)then bif (a.Days==b.Days)then (je a.Except b.Except).bind λc=>bif c then bif (a.From==b.From)then bif (a.To==b.To)then bif (a.Prio==b.Prio)then (ek a.Tags b.Tags).bind λd=>bif d then some (a.Gone==b.Gone)else some false else some false else some false else some false else some false else some false else some false else some false else some false else some false else some false else some false).bind λe=>some e
def zk (m:(List (ByteArray×Entry))):Option (List ByteArray) :=
  IK m
def iY (b:(List Int)):Option ((List Int)) :=
  (lm [] b).bind λa=>some a
def fB (b:(List ByteArray)):Option ((List ByteArray)) :=
  (lm [] b).bind λa=>some a
def mZ (a:Entry):Option (Entry) :=
  (iY a.Except).bind λb=>(fB a.Tags).bind λc=>some (⟨a.Key,a.Item,a.Version,a.First,a.Last,a.Every,a.Days,b,a.From,a.To,a.Prio,c,a.Gone⟩:Entry)
noncomputable def jf (b:(List Entry)) (c:(List Entry)) (d:Nat) (g:Nat) (f:Unit):Option (Ctl (Unit) ((List Entry)×Int)) :=
  (idx ([b,c]:List (List Entry)) (d:Int)).bind λe=>(di e).bind λa=>bif (a != 0)then some (.ret (([]:(List Entry)),a))else some (.go ())
def jV (g:Nat) (a:Entry) (b:(List (ByteArray×Entry))):Option (Ctl ((List (ByteArray×Entry))) ((List Entry)×Int)) :=
  (bif (dK eqS b a.Key).isSome then bif ((((dK eqS b a.Key).getD (⟨(⟨#[]⟩:ByteArray),(⟨#[]⟩:ByteArray),0,0,0,0,0,([]:List Int),0,0,0,([]:List ByteArray),false⟩:Entry)).Version)==a.Version)then (vW ((dK eqS b a.Key).getD (⟨(⟨#[]⟩:ByteArray),(⟨#[]⟩:ByteArray),0,0,0,0,0,([]:List Int),0,0,0,([]:List ByteArray),false⟩:Entry)) a).bind λc=>some (!c)else some false else some false).bind λd=>bif d then some (.ret (([]:(List Entry)),13))else (bif (!((dK eqS b a.Key).isSome))then some true else some (decide (a.Version>(((dK eqS b a.Key).getD (⟨(⟨#[]⟩:ByteArray),(⟨#[]⟩:ByteArray),0,0,0,0,0,([]:List Int),0,0,0,([]:List ByteArray),false⟩:Entry)).Version)))).bind λe=>(bif e then some (Dt eqS b a.Key a)else some b).bind λf=>some (.go f)
def kg (c:(List (ByteArray×Entry))) (f:Nat) (e:ByteArray) (d:(List Entry)):Option (Ctl ((List Entry)) (Unit)) :=
  (mZ ((dK eqS c e).getD (⟨(⟨#[]⟩:ByteArray),(⟨#[]⟩:ByteArray),0,0,0,0,0,([]:List Int),0,0,0,([]:List ByteArray),false⟩:Entry))).bind λb=>(lm d ([b]:List Entry)).bind λa=>some (.go a)
noncomputable def mR (b:(List Entry)) (c:(List Entry)):Option ((List Entry)×Int) :=
  (forL (List.range (2:Int).toNat) () (λk x s=>jf b c k x s)).bind λd=>thenC d (λj=>(dx ([b,c]:List (List Entry))).bind λg=>(forL g ([]:List (ByteArray×Entry)) (λk x s=>jV k x s)).bind λe=>thenC e (λa=>bif (decide ((a.length:Int)>200))then some (([]:(List Entry)),2)else (zk a).bind λh=>(forL h ([]:List Entry) (λk x s=>kg a k x s)).bind λf=>thenC f (λi=>some (i,0)) (λ_=>none)) (λr=>some r)) (λr=>some r)
def jk (b:(List ByteArray)) (a:Nat) (d:Nat) (c:Unit):Option (Ctl (Unit) (Unit)) :=
  (inR (a:Int) b).bind λ_=>some (.go ())
def j5 (a:(List ByteArray)):Option (Unit) :=
  (forL (List.range ((a.length:Int)).toNat) () (λk x s=>jk a k x s)).bind λb=>thenC b (λc=>some ()) (λ_=>none)
def kr (b:(List Int)) (a:Nat) (d:Nat) (c:Unit):Option (Ctl (Unit) (Unit)) :=
  (inR (a:Int) b).bind λ_=>some (.go ())
def mr (a:(List Int)):Option (Unit) :=
  (forL (List.range ((a.length:Int)).toNat) () (λk x s=>kr a k x s)).bind λb=>thenC b (λc=>some ()) (λ_=>none)
def ic (b:(List Entry)) (a:Nat) (d:Nat) (c:Unit):Option (Ctl (Unit) (Unit)) :=
  (inR (a:Int) b).bind λ_=>some (.go ())
def jh (a:(List Entry)):Option (Unit) :=
  (forL (List.range ((a.length:Int)).toNat) () (λk x s=>ic a k x s)).bind λb=>thenC b (λc=>some ()) (λ_=>none)
noncomputable def gQ (a:Player):Option (Int) :=
  ((fG a.Key).bind λd=>bif (!d)then some true else (fG a.Screen).bind λe=>some (!e)).bind λf=>bif f then some 5 else (aR a.Zone (-1440) 1440).bind λb=>bif b then some 1 else (fF a.Tags).bind λc=>some c
def dE (a:Int):Option (Bool) :=
  (bif (decide (a>=0))then some (decide (a<345686400000))else some false).bind λb=>some b
noncomputable def fA (d:(List Entry)) (e:Player) (c:Int):Option (Int) :=
  (di d).bind λa=>bif (a != 0)then some a else (gQ e).bind λb=>bif (b != 0)then some b else (dE c).bind λf=>bif (!f)then some 1 else some 0
def cmp_isNaN_string (a:ByteArray):Option (Bool) :=
  some (sNe a a)
def cmp_Less_string (a:ByteArray) (b:ByteArray):Option (Bool) :=
  ((cmp_isNaN_string a).bind λc=>bif c then (cmp_isNaN_string b).bind λd=>bif (!d)then some true else some (sLt a b)else some (sLt a b)).bind λe=>some e
def slices_isNaN_string (a:ByteArray):Option (Bool) :=
  some (sNe a a)
def bg (e:(List ByteArray)) (d:ByteArray) (a:Int×Int):Option (Ctl (Int×Int) (Unit)) :=
  bif (decide (a.1<a.2))then (Dx .u64 (IntKind.u64.wrap (w64 (a.1+a.2))) 1).bind λb=>(idx e (w64 b)).bind λf=>(cmp_Less_string f d).bind λc=>bif c then some (.go ((w64 ((w64 b)+1)),a.2))else some (.go (a.1,(w64 b)))else some (.brk (a.1,a.2))
noncomputable def dN (a:(List ByteArray)) (c:ByteArray):Option (Int×Bool) :=
  (iV (0,(a.length:Int)) (λs=>bg a c s)).bind λd=>thenC d (λb=>(bif (decide (b.1<(a.length:Int)))then (idx a b.1).bind λh=>bif (sEq h c)then some true else (idx a b.1).bind λi=>(slices_isNaN_string i).bind λe=>bif e then (slices_isNaN_string c).bind λf=>some f else some false else some false).bind λg=>some (b.1,g)) (λ_=>none)
noncomputable def jC (a:Player) (d:Nat) (c:ByteArray) (e:Unit):Option (Ctl (Unit) (Bool)) :=
  (dN a.Tags c).bind λb=>bif (!b.2)then some (.ret false)else some (.go ())
noncomputable def oL (a:Entry) (c:Player):Option (Bool) :=
  (forL a.Tags () (λk x s=>jC c k x s)).bind λb=>thenC b (λd=>some true) (λr=>some r)
def cmp_isNaN_int (a:Int):Option (Bool) :=
  some (a != a)
def cmp_Less_int (a:Int) (b:Int):Option (Bool) :=
  ((cmp_isNaN_int a).bind λc=>bif c then (cmp_isNaN_int b).bind λd=>bif (!d)then some true else some (decide (a<b))else some (decide (a<b))).bind λe=>some e
def gU (a:Int):Option (Bool) :=
  some (a != a)
def bB (e:(List Int)) (d:Int) (a:Int×Int):Option (Ctl (Int×Int) (Unit)) :=
  bif (decide (a.1<a.2))then (Dx .u64 (IntKind.u64.wrap (w64 (a.1+a.2))) 1).bind λb=>(idx e (w64 b)).bind λf=>(cmp_Less_int f d).bind λc=>bif c then some (.go ((w64 ((w64 b)+1)),a.2))else some (.go (a.1,(w64 b)))else some (.brk (a.1,a.2))
noncomputable def dC (a:(List Int)) (c:Int):Option (Int×Bool) :=
  (iV (0,(a.length:Int)) (λs=>bB a c s)).bind λd=>thenC d (λb=>(bif (decide (b.1<(a.length:Int)))then (idx a b.1).bind λh=>bif (h==c)then some true else (idx a b.1).bind λi=>(gU i).bind λe=>bif e then (gU c).bind λf=>some f else some false else some false).bind λg=>some (b.1,g)) (λ_=>none)
noncomputable def jJ (a:Entry) (b:Int):Option (Bool) :=
  ((aR b a.First a.Last).bind λf=>bif f then some true else (Ke .i64 (w64 (b-a.First)) a.Every).bind λd=>bif (d != 0)then some true else (BR .i64 1 (b.tmod 7)).bind λc=>some ((rH .i64 a.Days c)==0)).bind λg=>bif g then some false else (dC a.Except b).bind λe=>some (!e.2)
def jU (a:Entry) (c:Int) (b:Int):Option (Window) :=
  (bif (decide ((w64 (a.To-a.From))<=0))then some (w64 ((w64 (a.To-a.From))+1440))else some (w64 (a.To-a.From))).bind λd=>some (⟨(w64 ((w64 ((w64 ((w64 (b*1440))+a.From))-c))*60000)),(w64 ((w64 ((w64 ((w64 ((w64 (b*1440))+a.From))-c))*60000))+(w64 (d*60000))))⟩:Window)
noncomputable def eB (d:Window) (e:Int) (b:Entry) (a:(List Window)×Int):Option (Ctl ((List Window)×Int) (Unit)) :=
  bif (decide (a.2<=(u7 (w64 ((w64 ((w64 (d.To+(w64 (e*60000)))).tdiv 86400000))+1)) b.Last)))then (jJ b a.2).bind λg=>bif (!g)then some (.go (a.1,(w64 (a.2+1))))else (jU b e a.2).bind λc=>(bif (decide (c.From<d.To))then some (decide (c.To>d.From))else some false).bind λh=>(bif h then (lm a.1 ([c]:List Window)).bind λf=>some f else some a.1).bind λi=>some (.go (i,(w64 (a.2+1))))else some (.brk (a.1,a.2))
noncomputable def gG (b:Entry) (c:Int) (a:Window):Option ((List Window)) :=
  (bif b.Gone then some true else some (decide (a.From>=a.To))).bind λf=>bif f then some ([]:(List Window))else (iV (([]:List Window),(ol (w64 ((w64 ((w64 (a.From+(w64 (c*60000)))).tdiv 86400000))-2)) b.First)) (λs=>eB a c b s)).bind λd=>thenC d (λe=>some e.1) (λ_=>none)
def iB (c:(List Entry)) (b:Nat) (g:Nat) (e:Window) (d:(List Span)):Option (Ctl ((List Span)) (Unit)) :=
  (idx c (b:Int)).bind λf=>(lm d ([(⟨(some f),e⟩:Span)]:List Span)).bind λa=>some (.go a)
noncomputable def iA (a:Player) (j:Window) (e:(List Entry)) (d:Nat) (c:Entry) (b:(List Span)):Option (Ctl ((List Span)) (Unit)) :=
  (oL c a).bind λg=>bif (!g)then some (.go b)else (gG c a.Zone j).bind λh=>(forL h b (λk x s=>iB e d k x s)).bind λf=>thenC f (λi=>some (.go i)) (λ_=>none)
noncomputable def iy (a:(List Entry)) (c:Player) (e:Window):Option ((List Span)) :=
  (forL a ([]:List Span) (λk x s=>iA c e a k x s)).bind λb=>thenC b (λd=>some d) (λ_=>none)
def cmp_Compare_int (a:Int) (b:Int):Option (Int) :=
  (cmp_isNaN_int a).bind λd=>(cmp_isNaN_int b).bind λc=>bif d then bif c then some 0 else some (-1)else bif c then some 1 else bif (decide (a<b))then some (-1)else bif (decide (a>b))then some 1 else some 0
def iT (a:ByteArray) (b:ByteArray):Option (Int) :=
  some (EC a b)
def strings_Compare (a:ByteArray) (b:ByteArray):Option (Int) :=
  (iT a b).bind λc=>some c
def rq (b:Nat) (a:Int) (c:Unit):Option (Ctl (Unit) (Int)) :=
  bif (a != 0)then some (.ret a)else some (.go ())
def o8 (b:(List Int)):Option (Int) :=
  (forL b () (λk x s=>rq k x s)).bind λa=>thenC a (λc=>some 0) (λr=>some r)
def eX (a:Span) (b:Span):Option (Int) :=
  (b.f_e).bind λi=>(a.f_e).bind λj=>(cmp_Compare_int i.Prio j.Prio).bind λf=>(cmp_Compare_int b.f_time.From a.f_time.From).bind λc=>(b.f_e).bind λg=>(a.f_e).bind λh=>(strings_Compare g.Key h.Key).bind λd=>(o8 ([f,c,d]:List Int)).bind λe=>some e
noncomputable def iE (x:(List Span)):Option ((List Span)) :=
  zC (λa b=>eX a b) x
noncomputable def rV (d:(List Entry)) (e:Player) (a:Int):Option ((List Span)) :=
  (iy d e (⟨a,(w64 (a+1))⟩:Window)).bind λb=>(iE b).bind λc=>(mo c b).bind λ_=>some c
def lZ (e:Nat) (c:Span) (b:(List ByteArray)):Option (Ctl ((List ByteArray)) (Unit)) :=
  (c.f_e).bind λd=>(lm b ([d.Key]:List ByteArray)).bind λa=>some (.go a)
noncomputable def qf (b:(List Entry)) (c:Player) (a:Int):Option ((List ByteArray)×Int) :=
  (fA b c a).bind λd=>bif (d != 0)then some (([]:(List ByteArray)),d)else (rV b c a).bind λf=>(forL f ([]:List ByteArray) (λk x s=>lZ k x s)).bind λe=>thenC e (λg=>some (g,0)) (λ_=>none)
def jl (a:Nat) (d:Nat) (b:(List ByteArray)):Option (Ctl ((List ByteArray)) (Unit)) :=
  (inR (a:Int) b).bind λ_=>(b[(0+((a:Int)).toNat)]?).bind λc=>some (.go (b.set (0+((a:Int)).toNat) (⟨#[]⟩:ByteArray)))
def kw (a:(List ByteArray)):Option ((List ByteArray)) :=
  (forL (List.range ((a.length:Int)).toNat) a (λk x s=>jl k x s)).bind λb=>thenC b (λc=>some c) (λ_=>none)
def fD (a:Window):Option (Int) :=
  ((aR a.From 0 a.To).bind λb=>bif b then some true else some (decide (a.To>345686400000))).bind λc=>bif c then some 1 else bif (decide ((w64 (a.To-a.From))>34560000000))then some 2 else some 0
noncomputable def lI (c:(List Entry)) (d:Player) (f:Window):Option (Int) :=
  (di c).bind λa=>bif (a != 0)then some a else (gQ d).bind λb=>bif (b != 0)then some b else (fD f).bind λe=>some e
def iR (a:Span) (b:Span):Option (Int) :=
  (cmp_Compare_int a.f_time.From b.f_time.From).bind λc=>some c
noncomputable def gZ (x:(List Span)):Option ((List Span)) :=
  zC (λa b=>iR a b) x
def tJ (a:Window) (b:Window):Option (Window) :=
  some (⟨(ol a.From b.From),(u7 a.To b.To)⟩:Window)
def dU (x:(List Int)):Option ((List Int)) :=
  LA x
def cK (c:(List Int)) (b:Int) (a:(List Int)×Int×Int):Option (Ctl ((List Int)×Int×Int) (Unit)) :=
  bif (decide (a.2.2<(((((c.length:Int)).toNat-(b).toNat):Nat):Int)))then (inN a.2.2 (((c.length:Int)).toNat-(b).toNat)).bind λ_=>(a.1[(((b).toNat)+(a.2.2).toNat)]?).bind λe=>(inN (w64 (a.2.2-1)) (((c.length:Int)).toNat-(b).toNat)).bind λ_=>(a.1[(((b).toNat)+((w64 (a.2.2-1))).toNat)]?).bind λf=>(bif (e != f)then (inN a.2.2 (((c.length:Int)).toNat-(b).toNat)).bind λ_=>(a.1[(((b).toNat)+(a.2.2).toNat)]?).bind λg=>(inR a.2.1 a.1).bind λ_=>(a.1[(0+(a.2.1).toNat)]?).bind λh=>some ((a.1.set (0+(a.2.1).toNat) g),(w64 (a.2.1+1)))else some (a.1,a.2.1)).bind λd=>some (.go (d.1,d.2,(w64 (a.2.2+1))))else some (.brk (a.1,a.2.1,a.2.2))
noncomputable def bn (b:(List Int)) (c:Int):Option (Ctl (Int) ((List Int))) :=
  bif (decide (c<(b.length:Int)))then (inR c b).bind λ_=>(b[(0+(c).toNat)]?).bind λd=>(inR (w64 (c-1)) b).bind λ_=>(b[(0+((w64 (c-1))).toNat)]?).bind λe=>bif (d==e)then (neL b).bind λ_=>(rP b c (b.length:Int)).bind λ_=>(iV (b,c,1) (λs=>cK b c s)).bind λf=>thenC f (λa=>(rP a.1 a.2.1 (a.1.length:Int)).bind λ_=>(rP (a.1.take ((a.2.1).toNat)++List.replicate (((a.1.length:Int)).toNat-(a.2.1).toNat) 0++a.1.drop (((a.2.1).toNat)+(((a.1.length:Int)).toNat-(a.2.1).toNat))) 0 a.2.1).bind λ_=>some (.ret (cutL (a.1.take ((a.2.1).toNat)++List.replicate (((a.1.length:Int)).toNat-(a.2.1).toNat) 0++a.1.drop (((a.2.1).toNat)+(((a.1.length:Int)).toNat-(a.2.1).toNat))) 0 ((a.2.1).toNat)))) (λ_=>none)else some (.go (w64 (c+1)))else some (.brk c)
noncomputable def cZ (a:(List Int)):Option ((List Int)) :=
  bif (decide ((a.length:Int)<2))then some a else (iV 1 (λs=>bn a s)).bind λb=>thenC b (λc=>some a) (λr=>some r)
def jZ (d:Window) (f:Nat) (e:Span) (c:(List Int)):Option (Ctl ((List Int)) (Unit)) :=
  (tJ e.f_time d).bind λa=>(lm c ([a.From,a.To]:List Int)).bind λb=>some (.go b)
noncomputable def nz (d:(List Entry)) (f:Player) (a:Window):Option ((List Int)) :=
  (iy d f a).bind λh=>(forL h ([a.From,a.To]:List Int) (λk x s=>jZ a k x s)).bind λe=>thenC e (λb=>(neL b).bind λ_=>(dU b).bind λc=>(mo c b).bind λ_=>(cZ c).bind λg=>some g) (λ_=>none)
def fE (c:Span) (a:(List Int)) (b:Int):Option (Bool) :=
  (idx a b).bind λd=>some (decide (c.f_time.To<=d))
def dI (b:(List Span)) (f2_3:(List Int)) (f2_4:Int) (a:Nat) (f:Nat) (e:Unit):Option (Ctl (Unit) (Int)) :=
  (inR (a:Int) b).bind λ_=>(b[(0+((a:Int)).toNat)]?).bind λc=>(fE c f2_3 f2_4).bind λd=>bif d then some (.ret (a:Int))else some (.go ())
def dS (a:(List Span)) (f2_3:(List Int)) (f2_4:Int):Option (Int) :=
  (forL (List.range ((a.length:Int)).toNat) () (λk x s=>dI a f2_3 f2_4 k x s)).bind λb=>thenC b (λc=>some (-1)) (λr=>some r)
def dH (del2_3:(List Int)) (del2_4:Int) (a:(List Span)×Int×Int):Option (Ctl ((List Span)×Int×Int) (Unit)) :=
  bif (decide (a.2.2<(a.1.length:Int)))then (inR a.2.2 a.1).bind λ_=>(a.1[(0+(a.2.2).toNat)]?).bind λb=>(fE b del2_3 del2_4).bind λd=>(bif (!d)then (inR a.2.1 a.1).bind λ_=>(a.1[(0+(a.2.1).toNat)]?).bind λe=>some ((a.1.set (0+(a.2.1).toNat) b),(w64 (a.2.1+1)))else some (a.1,a.2.1)).bind λc=>some (.go (c.1,c.2,(w64 (a.2.2+1))))else some (.brk (a.1,a.2.1,a.2.2))
noncomputable def bO (c:(List Span)) (del2_3:(List Int)) (del2_4:Int):Option ((List Span)) :=
  (dS c del2_3 del2_4).bind λb=>bif (b==(-1))then some c else (iV (c,b,(w64 (b+1))) (λs=>dH del2_3 del2_4 s)).bind λd=>thenC d (λa=>(rP a.1 a.2.1 (a.1.length:Int)).bind λ_=>(rP (a.1.take ((a.2.1).toNat)++List.replicate (((a.1.length:Int)).toNat-(a.2.1).toNat) (⟨none,(⟨0,0⟩:Window)⟩:Span)++a.1.drop (((a.2.1).toNat)+(((a.1.length:Int)).toNat-(a.2.1).toNat))) 0 a.2.1).bind λ_=>some ((a.1.take ((a.2.1).toNat)++List.replicate (((a.1.length:Int)).toNat-(a.2.1).toNat) (⟨none,(⟨0,0⟩:Window)⟩:Span)++a.1.drop (((a.2.1).toNat)+(((a.1.length:Int)).toNat-(a.2.1).toNat))).take ((a.2.1).toNat))) (λ_=>none)
def dW (a:Span->Option Bool) (b:Nat) (d:Span) (e:Unit):Option (Ctl (Unit) (Int)) :=
  (a d).bind λc=>bif c then some (.ret (b:Int))else some (.go ())
def bU (c:(List Span)) (a:Span->Option Bool):Option (Int) :=
  (forL c () (λk x s=>dW a k x s)).bind λb=>thenC b (λd=>some (-1)) (λr=>some r)
def dG (a:Int) (b:Unit):Option (Ctl (Unit) (Unit)) :=
  bif (decide ((w64 (a+1))<0))then none else some (.brk ())
noncomputable def bP (del2_3:(List Int)) (del2_4:Int):Option (Unit) :=
  (bU ([]:List Span) (λx0=>fE x0 del2_3 del2_4)).bind λa=>bif (a==(-1))then some ()else (iV () (λs=>dG a s)).bind λb=>thenC b (λc=>none) (λ_=>none)
def bA (b:(List Span)) (a:Int×(Option Entry)×Int×Int):Option (Ctl (Int×(Option Entry)×Int×Int) (Unit)) :=
  bif (decide (a.1<(b.length:Int)))then (inR a.1 b).bind λ_=>(b[(0+(a.1).toNat)]?).bind λe=>(eX e (⟨a.2.1,(⟨a.2.2.1,a.2.2.2⟩:Window)⟩:Span)).bind λf=>(bif (decide (f<0))then (inR a.1 b).bind λ_=>(b[(0+(a.1).toNat)]?).bind λc=>some (c.f_e,c.f_time.From,c.f_time.To)else some (a.2.1,a.2.2.1,a.2.2.2)).bind λd=>some (.go ((w64 (a.1+1)),d.1,d.2.1,d.2.2))else some (.brk (a.1,a.2.1,a.2.2.1,a.2.2.2))
noncomputable def bG (a:(List Span)):Option (Span) :=
  (bif (decide ((a.length:Int)<1))then none else some ()).bind λe=>(inR 0 a).bind λ_=>(a[(0+(0:Int).toNat)]?).bind λb=>(iV (1,b.f_e,b.f_time.From,b.f_time.To) (λs=>bA a s)).bind λd=>thenC d (λc=>some (⟨c.2.1,(⟨c.2.2.1,c.2.2.2⟩:Window)⟩:Span)) (λ_=>none)
def fU (b:(List Span)) (f:(List Int)) (g:(List Slot_)×(List Span)×Int×Int) (a:(List Span)×Int):Option (Ctl ((List Span)×Int) (Unit)) :=
  (bif (decide (a.2<(b.length:Int)))then (inR a.2 b).bind λ_=>(b[(0+(a.2).toNat)]?).bind λd=>(idx f g.2.2.2).bind λi=>some (decide (d.f_time.From<=i))else some false).bind λh=>bif h then (inR a.2 b).bind λ_=>(b[(0+(a.2).toNat)]?).bind λe=>(lm a.1 ([e]:List Span)).bind λc=>some (.go (c,(w64 (a.2+1))))else some (.brk (a.1,a.2))
noncomputable def fV (b:(List Int)) (j:(List Span)) (a:(List Slot_)×(List Span)×Int×Int):Option (Ctl ((List Slot_)×(List Span)×Int×Int) (Unit)) :=
  bif (decide ((w64 (a.2.2.2+1))<(b.length:Int)))then (iV (a.2.1,a.2.2.1) (λs=>fU j b a s)).bind λi=>thenC i (λd=>(bO d.1 b a.2.2.2).bind λc=>(leL c d.1).bind λ_=>(bP b a.2.2.2).bind λ_=>(bif (decide ((c.length:Int)>0))then (neL c).bind λ_=>(bG c).bind λk=>(k.f_e).bind λn=>some n.Key else some (⟨#[]⟩:ByteArray)).bind λf=>(bif (decide ((w64 ((a.1.length:Int)-1))>=0))then (inR (w64 ((a.1.length:Int)-1)) a.1).bind λ_=>(a.1[(0+((w64 ((a.1.length:Int)-1))).toNat)]?).bind λh=>some (sEq h.Entry f)else some false).bind λl=>(bif l then (idx b (w64 (a.2.2.2+1))).bind λo=>(inR (w64 ((a.1.length:Int)-1)) a.1).bind λ_=>(a.1[(0+((w64 ((a.1.length:Int)-1))).toNat)]?).bind λe=>some (a.1.set (0+((w64 ((a.1.length:Int)-1))).toNat) (⟨(⟨e.Time.From,o⟩:Window),e.Entry⟩:Slot_))else (idx b a.2.2.2).bind λp=>(idx b (w64 (a.2.2.2+1))).bind λq=>(lm a.1 ([(⟨(⟨p,q⟩:Window),f⟩:Slot_)]:List Slot_)).bind λg=>some g).bind λm=>some (.go (m,c,d.2,(w64 (a.2.2.2+1))))) (λ_=>none)else some (.brk (a.1,a.2.1,a.2.2.1,a.2.2.2))
noncomputable def kS (a:(List Entry)) (b:Player) (e:Window):Option ((List Slot_)) :=
  (iy a b e).bind λd=>(gZ d).bind λc=>(mo c d).bind λ_=>(nz a b e).bind λg=>(iV (([]:List Slot_),([]:List Span),0,0) (λs=>fV g c s)).bind λf=>thenC f (λh=>some h.1) (λ_=>none)
noncomputable def lc (a:(List Entry)) (b:Player) (d:Window):Option ((List Slot_)×Int) :=
  (lI a b d).bind λc=>bif (c != 0)then some (([]:(List Slot_)),c)else (kS a b d).bind λe=>some (e,0)
def iJ (a:Nat) (d:Nat) (b:(List Slot_)):Option (Ctl ((List Slot_)) (Unit)) :=
  (inR (a:Int) b).bind λ_=>(b[(0+((a:Int)).toNat)]?).bind λc=>some (.go (b.set (0+((a:Int)).toNat) (⟨(⟨0,0⟩:Window),(⟨#[]⟩:ByteArray)⟩:Slot_)))
def jA (a:(List Slot_)):Option ((List Slot_)) :=
  (forL (List.range ((a.length:Int)).toNat) a (λk x s=>iJ k x s)).bind λb=>thenC b (λc=>some c) (λ_=>none)
def strconv_Itoa (x0:Int):Option (ByteArray) :=
  Nb x0
def strings_Join (x0:(List ByteArray)) (x1:ByteArray):Option (ByteArray) :=
  NP x0 x1
def nG (e:Nat) (d:Int) (c:(List ByteArray)):Option (Ctl ((List ByteArray)) (Unit)) :=
  (strconv_Itoa d).bind λb=>(lm c ([b]:List ByteArray)).bind λa=>some (.go a)
def rF (a:(List Int)):Option (ByteArray) :=
  (forL a ([]:List ByteArray) (λk x s=>nG k x s)).bind λb=>thenC b (λd=>(strings_Join d (⟨#[32]⟩:ByteArray)).bind λc=>some c) (λ_=>none)
def uM (a:(List ByteArray)):Option (ByteArray) :=
  bif ((a.length:Int)==0)then some (⟨#[45]⟩:ByteArray)else (strings_Join a (⟨#[44]⟩:ByteArray)).bind λb=>some b
def nS (e:Nat) (d:Int) (c:(List ByteArray)):Option (Ctl ((List ByteArray)) (Unit)) :=
  (strconv_Itoa d).bind λb=>(lm c ([b]:List ByteArray)).bind λa=>some (.go a)
def l7 (a:Entry):Option (ByteArray) :=
  (forL a.Except ([]:List ByteArray) (λk x s=>nS k x s)).bind λb=>thenC b (λg=>(bif a.Gone then some (⟨#[103,111,110,101]⟩:ByteArray)else some (⟨#[111,110]⟩:ByteArray)).bind λh=>(rF ([a.Version,a.First,a.Last,a.Every,a.Days,a.From,a.To,a.Prio]:List Int)).bind λc=>(uM g).bind λd=>(uM a.Tags).bind λe=>(strings_Join ([a.Key,a.Item,c,h,d,e]:List ByteArray) (⟨#[32]⟩:ByteArray)).bind λf=>some f) (λ_=>none)
def oI (a:Entry) (b:Entry):Option (Bool) :=
  ((l7 (⟨a.Key,a.Item,a.Version,a.First,a.Last,a.Every,a.Days,([]:List Int),a.From,a.To,a.Prio,([]:List ByteArray),a.Gone⟩:Entry)).bind λf=>(l7 (⟨b.Key,b.Item,b.Version,b.First,b.Last,b.Every,b.Days,([]:List Int),b.From,b.To,b.Prio,([]:List ByteArray),b.Gone⟩:Entry)).bind λc=>bif (sEq f c)then (je a.Except b.Except).bind λd=>bif d then (ek a.Tags b.Tags).bind λe=>some e else some false else some false).bind λg=>some g
def aY (s2_2:(List Entry)) (a:Nat) (c:Entry) (e:Unit):Option (Ctl (Unit) (Bool)) :=
  (idx s2_2 (a:Int)).bind λd=>(oI c d).bind λb=>bif (!b)then some (.ret false)else some (.go ())
def bL (s1_1:(List Entry)) (s2_2:(List Entry)):Option (Bool) :=
  bif ((s1_1.length:Int) != (s2_2.length:Int))then some false else (forL s1_1 () (λk x s=>aY s2_2 k x s)).bind λa=>thenC a (λb=>some true) (λr=>some r)
def nN (a:Rect):Option (Int) :=
  ((aR a.X (-100000) 100000).bind λd=>bif d then some true else (aR a.Y (-100000) 100000).bind λe=>some e).bind λg=>bif g then some 1 else ((aR a.W 1 (w64 (100000-a.X))).bind λb=>bif b then some true else (aR a.H 1 (w64 (100000-a.Y))).bind λc=>some c).bind λf=>bif f then some 1 else some 0
def nH (c:Nat) (b:Rect) (d:Unit):Option (Ctl (Unit) (Int)) :=
  (nN b).bind λa=>bif (a != 0)then some (.ret a)else some (.go ())
def mD (a:(List Rect)):Option (Int) :=
  bif (decide ((a.length:Int)>2000))then some 2 else (forL a () (λk x s=>nH k x s)).bind λb=>thenC b (λc=>some 0) (λr=>some r)
def iG (a:Int):Option Bool :=
  bif (decide (a<0))then none else bif (decide ((w64 (a-(w64 (0-0))))>0))then (zN (w64 (a-(w64 (0-0)))) 32).bind λ_=>some true else some false
def gJ (c:Nat) (b:(List Rect)) (a:Int):Option (Ctl (Int) (Unit)) :=
  (bif (decide ((w64 (a+(b.length:Int)))<0))then none else some ()).bind λd=>some (.go (w64 (a+(b.length:Int))))
def gL (d:Nat) (c:(List Rect)) (b:(List Rect)):Option (Ctl ((List Rect)) (Unit)) :=
  (lm b c).bind λa=>some (.go a)
def fw (a:(List (List Rect))):Option ((List Rect)) :=
  (forL a 0 (λk x s=>gJ k x s)).bind λb=>thenC b (λe=>(iG e).bind λf=>(forL a ([]:List Rect) (λk x s=>gL k x s)).bind λc=>thenC c (λd=>some d) (λ_=>none)) (λ_=>none)
def vY (a:Run) (b:Run):Option (Int) :=
  some (w64 (a.f_from-b.f_from))
def sG (c:Int):Option (Int) :=
  (bif (decide (c>=4294967296))then (Dx .u64 c 32).bind λh=>some (h,32)else some (c,0)).bind λa=>(bif (decide (a.1>=65536))then (Dx .u64 a.1 16).bind λf=>some (f,(w64 (a.2+16)))else some (a.1,a.2)).bind λb=>(bif (decide (b.1>=256))then (Dx .u64 b.1 8).bind λg=>some (g,(w64 (b.2+8)))else some (b.1,b.2)).bind λd=>(qH (⟨#[0,1,2,2,3,3,3,3,4,4,4,4,4,4,4,4,5,5,5,5,5,5,5,5,5,5,5,5,5,5,5,5,6,6,6,6,6,6,6,6,6,6,6,6,6,6,6,6,6,6,6,6,6,6,6,6,6,6,6,6,6,6,6,6,7,7,7,7,7,7,7,7,7,7,7,7,7,7,7,7,7,7,7,7,7,7,7,7,7,7,7,7,7,7,7,7,7,7,7,7,7,7,7,7,7,7,7,7,7,7,7,7,7,7,7,7,7,7,7,7,7,7,7,7,7,7,7,7,8,8,8,8,8,8,8,8,8,8,8,8,8,8,8,8,8,8,8,8,8,8,8,8,8,8,8,8,8,8,8,8,8,8,8,8,8,8,8,8,8,8,8,8,8,8,8,8,8,8,8,8,8,8,8,8,8,8,8,8,8,8,8,8,8,8,8,8,8,8,8,8,8,8,8,8,8,8,8,8,8,8,8,8,8,8,8,8,8,8,8,8,8,8,8,8,8,8,8,8,8,8,8,8,8,8,8,8,8,8,8,8,8,8,8,8,8,8,8,8,8,8,8,8,8,8,8,8]⟩:ByteArray) (IntKind.u8.wrap d.1)).bind λe=>some (w64 (d.2+(w64 (e.toNat:Int))))
def rf (b:Int):Option (Int) :=
  (sG b).bind λa=>some a
def dA (c:Int) (a:(List Run)×Int):Option (Ctl ((List Run)×Int) (Unit)) :=
  (bif (decide (a.2>c))then (inR a.2 a.1).bind λ_=>(a.1[(0+(a.2).toNat)]?).bind λd=>(inR (w64 (a.2-1)) a.1).bind λ_=>(a.1[(0+((w64 (a.2-1))).toNat)]?).bind λe=>(vY d e).bind λg=>some (decide (g<0))else some false).bind λh=>bif h then (inR (w64 (a.2-1)) a.1).bind λ_=>(a.1[(0+((w64 (a.2-1))).toNat)]?).bind λb=>(inR a.2 a.1).bind λ_=>(a.1[(0+(a.2).toNat)]?).bind λf=>(inR a.2 a.1).bind λ_=>(a.1[(0+(a.2).toNat)]?).bind λi=>(inR (w64 (a.2-1)) (a.1.set (0+(a.2).toNat) b)).bind λ_=>((a.1.set (0+(a.2).toNat) b)[(0+((w64 (a.2-1))).toNat)]?).bind λj=>some (.go (((a.1.set (0+(a.2).toNat) b).set (0+((w64 (a.2-1))).toNat) f),(w64 (a.2-1))))else some (.brk (a.1,a.2))
noncomputable def bT (c:Int) (b:Int) (a:(List Run)×Int):Option (Ctl ((List Run)×Int) (Unit)) :=
  bif (decide (a.2<c))then (iV (a.1,a.2) (λs=>dA b s)).bind λd=>thenC d (λe=>some (.go (e.1,(w64 (a.2+1))))) (λ_=>none)else some (.brk (a.1,a.2))
noncomputable def cB (c:(List Run)) (a:Int) (b:Int):Option ((List Run)) :=
  (iV (c,(w64 (a+1))) (λs=>bT b a s)).bind λd=>thenC d (λe=>some e.1) (λ_=>none)
noncomputable def dz (b:Int) (a:Int) (c:(List Run)) (e:Int) (f:Unit):Option (Ctl (Unit) ((List Run))) :=
  bif (decide ((w64 (b-a))<=12))then (cB c a b).bind λd=>(mo d c).bind λ_=>some (.ret d)else bif (e==0)then none else none
noncomputable def dF (a:(List Run)) (b:Int) (c:Int) (d:Int):Option ((List Run)) :=
  (iV () (λs=>dz c b a d s)).bind λe=>thenC e (λf=>some a) (λr=>some r)
noncomputable def dh (a:(List Run)):Option ((List Run)) :=
  (rf (IntKind.u64.wrap (a.length:Int))).bind λc=>(dF a 0 (a.length:Int) c).bind λb=>(mo b a).bind λ_=>some b
def qp (c:Int) (g:Nat) (a:Rect) (b:(List Run)):Option (Ctl ((List Run)) (Unit)) :=
  (bif (decide (a.Y<=c))then some (decide (c<(w64 (a.Y+a.H))))else some false).bind λe=>(bif e then (lm b ([(⟨a.X,(w64 (a.X+a.W))⟩:Run)]:List Run)).bind λd=>some d else some b).bind λf=>some (.go f)
def qh (i:Nat) (b:Run) (a:(List Run)):Option (Ctl ((List Run)) (Unit)) :=
  (bif (decide ((w64 ((a.length:Int)-1))>=0))then (inR (w64 ((a.length:Int)-1)) a).bind λ_=>(a[(0+((w64 ((a.length:Int)-1))).toNat)]?).bind λd=>some (decide (b.f_from<=d.f_to))else some false).bind λg=>(bif g then (inR (w64 ((a.length:Int)-1)) a).bind λ_=>(a[(0+((w64 ((a.length:Int)-1))).toNat)]?).bind λe=>(inR (w64 ((a.length:Int)-1)) a).bind λ_=>(a[(0+((w64 ((a.length:Int)-1))).toNat)]?).bind λf=>some (a.set (0+((w64 ((a.length:Int)-1))).toNat) (⟨f.f_from,(ol e.f_to b.f_to)⟩:Run))else (lm a ([b]:List Run)).bind λc=>some c).bind λh=>some (.go h)
noncomputable def pE (c:(List Rect)) (g:Int):Option ((List Run)) :=
  (forL c ([]:List Run) (λk x s=>qp g k x s)).bind λd=>thenC d (λb=>(dh b).bind λa=>(mo a b).bind λ_=>(forL a ([]:List Run) (λk x s=>qh k x s)).bind λe=>thenC e (λf=>some f) (λ_=>none)) (λ_=>none)
def pY (b:(List Run)) (d:Run) (a:Int):Option (Ctl (Int) (Unit)) :=
  (bif (decide (a<(b.length:Int)))then (idx b a).bind λe=>some (decide (e.f_to<=d.f_from))else some false).bind λc=>bif c then some (.go (w64 (a+1)))else some (.brk a)
def pQ (b:(List Run)) (f:Run) (a:(List Run)×Int×Int):Option (Ctl ((List Run)×Int×Int) (Unit)) :=
  (bif (decide (a.2.1<(b.length:Int)))then (idx b a.2.1).bind λg=>some (decide (g.f_from<f.f_to))else some false).bind λd=>bif d then (idx b a.2.1).bind λh=>(bif (decide (h.f_from>a.2.2))then (idx b a.2.1).bind λi=>(lm a.1 ([(⟨a.2.2,i.f_from⟩:Run)]:List Run)).bind λc=>some c else some a.1).bind λe=>(idx b a.2.1).bind λj=>some (.go (e,(w64 (a.2.1+1)),(ol a.2.2 j.f_to)))else some (.brk (a.1,a.2.1,a.2.2))
noncomputable def nD (c:(List Run)) (j:Nat) (a:Run) (e:(List Run)×Int):Option (Ctl ((List Run)×Int) (Unit)) :=
  (iV e.2 (λs=>pY c a s)).bind λg=>thenC g (λd=>(iV (e.1,d,a.f_from) (λs=>pQ c a s)).bind λh=>thenC h (λb=>(bif (decide (b.2.2<a.f_to))then (lm b.1 ([(⟨b.2.2,a.f_to⟩:Run)]:List Run)).bind λf=>some f else some b.1).bind λi=>some (.go (i,d))) (λ_=>none)) (λ_=>none)
noncomputable def rG (a:(List Run)) (b:(List Run)):Option ((List Run)) :=
  (forL a (([]:List Run),0) (λk x s=>nD b k x s)).bind λc=>thenC c (λd=>some d.1) (λ_=>none)
def fH (s2_2:(List Run)) (c:Nat) (a:Run) (d:Unit):Option (Ctl (Unit) (Bool)) :=
  (idx s2_2 (c:Int)).bind λb=>bif (!((a.f_from==b.f_from)&&((a.f_to==b.f_to)&&true)))then some (.ret false)else some (.go ())
def eH (s1_1:(List Run)) (s2_2:(List Run)):Option (Bool) :=
  bif ((s1_1.length:Int) != (s2_2.length:Int))then some false else (forL s1_1 () (λk x s=>fH s2_2 k x s)).bind λa=>thenC a (λb=>some true) (λr=>some r)
def nJ (d:Nat) (a:Rect) (c:(List Int)):Option (Ctl ((List Int)) (Unit)) :=
  (lm c ([a.Y,(w64 (a.Y+a.H))]:List Int)).bind λb=>some (.go b)
def nM (b:(List Rect)×(List Run)×Int) (e:Int) (f:Nat) (a:Run) (d:(List Rect)):Option (Ctl ((List Rect)) (Unit)) :=
  (lm d ([(⟨a.f_from,b.2.2,(w64 (a.f_to-a.f_from)),(w64 (e-b.2.2))⟩:Rect)]:List Rect)).bind λc=>some (.go c)
noncomputable def kW (h:(List Int)) (e:(List Rect)) (f:(List Rect)) (d:Nat) (b:Int) (a:(List Rect)×(List Run)×Int):Option (Ctl ((List Rect)×(List Run)×Int) (Unit)) :=
  (bif (decide ((w64 ((d:Int)+1))<(h.length:Int)))then (pE e b).bind λi=>(pE f b).bind λj=>(rG i j).bind λl=>some l else some ([]:List Run)).bind λc=>(eH a.2.1 c).bind λm=>bif m then some (.go (a.1,a.2.1,a.2.2))else (forL a.2.1 a.1 (λk x s=>nM a b k x s)).bind λg=>thenC g (λn=>some (.go (n,c,b))) (λ_=>none)
noncomputable def oG (a:(List Rect)) (b:(List Rect)):Option ((List Rect)) :=
  (fw ([a,b]:List (List Rect))).bind λh=>(forL h ([]:List Int) (λk x s=>nJ k x s)).bind λf=>thenC f (λe=>(dU e).bind λc=>(mo c e).bind λ_=>(cZ c).bind λd=>(forL d (([]:List Rect),([]:List Run),0) (λk x s=>kW d a b k x s)).bind λg=>thenC g (λi=>some i.1) (λ_=>none)) (λ_=>none)
def uy (c:Nat) (a:Rect) (b:Int):Option (Ctl (Int) (Unit)) :=
  some (.go (w64 (b+(w64 (a.W*a.H)))))
def vz (a:(List Rect)):Option (Int) :=
  (forL a 0 (λk x s=>uy k x s)).bind λb=>thenC b (λc=>some c) (λ_=>none)
noncomputable def r9 (a:(List Rect)):Option (Int×Int) :=
  (mD a).bind λb=>bif (b != 0)then some (0,b)else (oG a ([]:List Rect)).bind λc=>(vz c).bind λd=>some (d,0)
def mH (e:Window) (a:Nat) (g:Nat) (b:(List Window)):Option (Ctl ((List Window)) (Unit)) :=
  (inR (a:Int) b).bind λ_=>(b[(0+((a:Int)).toNat)]?).bind λc=>(tJ c e).bind λd=>(inR (a:Int) b).bind λ_=>(b[(0+((a:Int)).toNat)]?).bind λf=>some (.go (b.set (0+((a:Int)).toNat) d))
noncomputable def mV (b:Entry) (f:Int) (a:Window):Option ((List Window)×Int) :=
  (di ([b]:List Entry)).bind λe=>bif (e != 0)then some (([]:(List Window)),e)else (aR f (-1440) 1440).bind λh=>bif h then some (([]:(List Window)),1)else (fD a).bind λc=>bif (c != 0)then some (([]:(List Window)),c)else (gG b f a).bind λd=>(forL (List.range ((d.length:Int)).toNat) d (λk x s=>mH a k x s)).bind λg=>thenC g (λi=>some (i,0)) (λ_=>none)
def pV (a:Window):Option (Bool) :=
  (bif (decide (a.From>=0))then bif (decide (a.From<a.To))then some (decide (a.To<=345686400000))else some false else some false).bind λb=>some b
noncomputable def j4 (a:(List ByteArray)):Option (Int) :=
  bif (decide ((a.length:Int)>20))then some 2 else (jq a).bind λb=>some b
noncomputable def fP (d:(List Campaign)) (b:Nat) (a:Campaign) (o:Unit):Option (Ctl (Unit) (Int)) :=
  ((fG a.Key).bind λe=>bif (!e)then some true else bif (sNe a.Class (⟨#[]⟩:ByteArray))then (fG a.Class).bind λf=>some (!f)else some false).bind λk=>bif k then some (.ret 5)else (bif (decide ((b:Int)>0))then (idx d (w64 ((b:Int)-1))).bind λn=>some (sLe a.Key n.Key)else some false).bind λl=>bif l then some (.ret 7)else ((pV a.Time).bind λg=>bif (!g)then some true else (aR a.Goal 0 1000000).bind λh=>bif h then some true else (aR a.Most 0 1000000).bind λi=>bif i then some true else (aR a.Cents 0 1000000000).bind λj=>some j).bind λm=>bif m then some (.ret 1)else (j4 a.Tags).bind λc=>bif (c != 0)then some (.ret c)else some (.go ())
noncomputable def ib (a:(List Campaign)):Option (Int) :=
  bif (decide ((a.length:Int)>30))then some 2 else (forL a () (λk x s=>fP a k x s)).bind λb=>thenC b (λc=>some 0) (λr=>some r)
def vJ (a:Campaign) (b:Int):Option (Int) :=
  bif (decide (b<a.Time.From))then some 0 else bif (decide (b>=a.Time.To))then some a.Goal else (L9 .i64 (w64 (a.Goal*(w64 (b-a.Time.From)))) (w64 (a.Time.To-a.Time.From))).bind λc=>some c
noncomputable def rA (b:Campaign) (a:Int):Option (Int×Int) :=
  (ib ([b]:List Campaign)).bind λc=>bif (c != 0)then some (0,c)else (dE a).bind λe=>bif (!e)then some (0,1)else (vJ b a).bind λd=>some (d,0)
def lC (a:Beat) (b:Beat):Option (Int) :=
  (strings_Compare a.Player b.Player).bind λc=>(cmp_Compare_int a.At b.At).bind λd=>(o8 ([c,d]:List Int)).bind λe=>some e
noncomputable def jw (c:(List Beat)) (b:Nat) (a:Beat) (n:Unit):Option (Ctl (Unit) (Int)) :=
  (fG a.Player).bind λd=>bif (!d)then some (.ret 5)else ((dE a.At).bind λe=>bif (!e)then some true else (aR a.Clock 0 345686399999).bind λf=>some f).bind λh=>bif h then some (.ret 1)else (bif (decide ((b:Int)>0))then (idx c (w64 ((b:Int)-1))).bind λk=>(lC k a).bind λg=>some (decide (g>=0))else some false).bind λi=>bif i then some (.ret 7)else (bif (decide ((b:Int)>0))then (idx c (w64 ((b:Int)-1))).bind λl=>bif (sEq a.Player l.Player)then (idx c (w64 ((b:Int)-1))).bind λm=>some (decide (a.Clock<=m.Clock))else some false else some false).bind λj=>bif j then some (.ret 16)else some (.go ())
noncomputable def kX (a:(List Beat)):Option (Int) :=
  bif (decide ((a.length:Int)>500))then some 2 else (forL a () (λk x s=>jw a k x s)).bind λb=>thenC b (λc=>some 0) (λr=>some r)
def qJ (f:ByteArray) (e:Bool) (h:Nat) (a:Beat) (b:(List Beat_)):Option (Ctl ((List Beat_)) (Unit)) :=
  (bif (sNe a.Player f)then some b else bif e then (lm b ([(⟨a.At,a.Clock⟩:Beat_)]:List Beat_)).bind λc=>some c else (lm b ([(⟨a.Clock,a.At⟩:Beat_)]:List Beat_)).bind λd=>some d).bind λg=>some (.go g)
def q9 (b:(List Beat)) (d:ByteArray) (a:Bool):Option ((List Beat_)) :=
  (forL b ([]:List Beat_) (λk x s=>qJ d a k x s)).bind λc=>thenC c (λe=>some e) (λ_=>none)
def oM (b:(List Beat_)) (c:Int) (a:Int):Option (Ctl (Int) (Unit)) :=
  (bif (decide (a<(b.length:Int)))then (idx b a).bind λe=>some (decide (e.f_from<=c))else some false).bind λd=>bif d then some (.go (w64 (a+1)))else some (.brk a)
noncomputable def pO (a:(List Beat_)) (c:Int):Option (Int×Int) :=
  bif ((a.length:Int)==0)then some (0,8)else (iV 0 (λs=>oM a c s)).bind λk=>thenC k (λd=>bif (d==0)then (idx a 0).bind λg=>(idx a 0).bind λh=>(dE (w64 (g.f_to-(w64 (h.f_from-c))))).bind λl=>bif (!l)then some (0,11)else some ((w64 (g.f_to-(w64 (h.f_from-c)))),0)else bif (d==(a.length:Int))then (idx a (w64 (d-1))).bind λi=>(idx a (w64 (d-1))).bind λj=>(dE (w64 ((w64 (i.f_to+c))-j.f_from))).bind λm=>bif (!m)then some (0,11)else some ((w64 ((w64 (i.f_to+c))-j.f_from)),0)else (idx a (w64 (d-1))).bind λb=>(idx a d).bind λe=>(bif (decide ((w64 (e.f_from-b.f_from))>2592000000))then some true else some (decide ((w64 (e.f_to-b.f_to))>2592000000))).bind λo=>bif o then some (0,2)else (L9 .i64 (w64 ((w64 (c-b.f_from))*(w64 (e.f_to-b.f_to)))) (w64 (e.f_from-b.f_from))).bind λf=>(dE (w64 (b.f_to+f))).bind λn=>bif (!n)then some (0,11)else some ((w64 (b.f_to+f)),0)) (λ_=>none)
noncomputable def rX (a:(List Beat)) (c:ByteArray) (b:Int) (f:Bool):Option (Int×Int) :=
  (kX a).bind λe=>bif (e != 0)then some (0,e)else (fG c).bind λi=>bif (!i)then some (0,5)else (dE b).bind λg=>bif (!g)then some (0,1)else (q9 a c f).bind λh=>(pO h b).bind λd=>some (d.1,d.2)
noncomputable def rU (c:(List Beat)) (d:ByteArray) (b:Int):Option (Int×Int) :=
  (rX c d b false).bind λa=>some (a.1,a.2)
noncomputable def jF (b:Alert) (c:Nat) (a:ByteArray) (g:Unit):Option (Ctl (Unit) (Int)) :=
  (fG a).bind λd=>bif (!d)then some (.ret 5)else (bif (decide ((c:Int)>0))then (idx b.Refs (w64 ((c:Int)-1))).bind λf=>some (sLe a f)else some false).bind λe=>bif e then some (.ret 7)else bif (sEq a b.Id)then some (.ret 14)else some (.go ())
noncomputable def lY (a:Alert):Option (Int) :=
  bif (decide ((a.Refs.length:Int)>20))then some 2 else (forL a.Refs () (λk x s=>jF a k x s)).bind λb=>thenC b (λc=>bif (!((a.Kind==1)==((a.Refs.length:Int)==0)))then some 3 else some 0) (λr=>some r)
def bK (a:ByteArray):Option (Int) :=
  (qH a 0).bind λd=>(qH a 1).bind λh=>(BR .u64 (IntKind.u64.wrap (h.toNat:Int)) 8).bind λp=>(qH a 2).bind λi=>(BR .u64 (IntKind.u64.wrap (i.toNat:Int)) 16).bind λj=>(qH a 3).bind λb=>(BR .u64 (IntKind.u64.wrap (b.toNat:Int)) 24).bind λk=>(qH a 4).bind λc=>(BR .u64 (IntKind.u64.wrap (c.toNat:Int)) 32).bind λl=>(qH a 5).bind λe=>(BR .u64 (IntKind.u64.wrap (e.toNat:Int)) 40).bind λm=>(qH a 6).bind λf=>(BR .u64 (IntKind.u64.wrap (f.toNat:Int)) 48).bind λn=>(qH a 7).bind λg=>(BR .u64 (IntKind.u64.wrap (g.toNat:Int)) 56).bind λo=>some (orI .u64 (orI .u64 (orI .u64 (orI .u64 (orI .u64 (orI .u64 (orI .u64 (IntKind.u64.wrap (d.toNat:Int)) p) j) k) l) m) n) o)
def gY (a:ByteArray):Option (Ctl (ByteArray) (Unit)) :=
  (bif (decide ((a.size:Int)>32))then (bK a).bind λb=>(wL a 8 a.size).bind λg=>(bK g).bind λc=>(wL a 16 a.size).bind λh=>(bK h).bind λd=>(wL a 24 a.size).bind λi=>(bK i).bind λe=>some ((rH .u64 (orI .u64 (orI .u64 b c) (orI .u64 d e)) 9259542123273814144)==0)else some false).bind λf=>bif f then (wL a 32 a.size).bind λj=>some (.go j)else some (.brk a)
noncomputable def fo (b:ByteArray):Option (Ctl (ByteArray) (Unit)) :=
  bif (decide ((b.size:Int)>0))then (qH b 0).bind λd=>bif (decide ((d.toNat:Int)<128))then (wL b 1 b.size).bind λc=>(bif (decide ((c.size:Int)>8))then (bK c).bind λf=>some ((rH .u64 f 9259542123273814144)==0)else some false).bind λj=>(bif j then (wL c 8 c.size).bind λa=>(bif (decide ((a.size:Int)>16))then (bK a).bind λg=>(wL a 8 a.size).bind λm=>(bK m).bind λh=>some ((rH .u64 (orI .u64 g h) 9259542123273814144)==0)else some false).bind λl=>bif l then (wL a 16 a.size).bind λn=>(iV n (λs=>gY s)).bind λe=>thenC e (λi=>some i) (λ_=>none)else some a else some c).bind λk=>some (.go k)else none else some (.brk b)
noncomputable def gD (b:ByteArray):Option (Bool) :=
  (iV b (λs=>fo s)).bind λa=>thenC a (λc=>some true) (λ_=>none)
def iX (c:Int) (a:ByteArray):Option (Ctl (ByteArray) (Unit)) :=
  (bif (decide ((a.size:Int)>0))then (qH a (w64 ((a.size:Int)-1))).bind λb=>some ((b.toNat:Int)==c)else some false).bind λd=>bif d then (wL a 0 (w64 ((a.size:Int)-1))).bind λe=>some (.go e)else some (.brk a)
noncomputable def strings_trimRightByte (c:ByteArray) (a:Int):Option (ByteArray) :=
  (iV c (λs=>iX a s)).bind λb=>thenC b (λd=>some d) (λ_=>none)
def jg (c:Int) (a:ByteArray):Option (Ctl (ByteArray) (Unit)) :=
  (bif (decide ((a.size:Int)>0))then (qH a 0).bind λb=>some ((b.toNat:Int)==c)else some false).bind λd=>bif d then (wL a 1 a.size).bind λe=>some (.go e)else some (.brk a)
noncomputable def strings_trimLeftByte (c:ByteArray) (a:Int):Option (ByteArray) :=
  (iV c (λs=>jg a s)).bind λb=>thenC b (λd=>some d) (λ_=>none)
noncomputable def qg (b:ByteArray) (a:ByteArray):Option (ByteArray) :=
  (bif (sEq b (⟨#[]⟩:ByteArray))then some true else some (sEq a (⟨#[]⟩:ByteArray))).bind λh=>bif h then some b else (bif ((a.size:Int)==1)then (qH a 0).bind λc=>some (decide ((c.toNat:Int)<128))else some false).bind λi=>bif i then (qH a 0).bind λd=>(strings_trimRightByte b (d.toNat:Int)).bind λf=>(qH a 0).bind λe=>(strings_trimLeftByte f (e.toNat:Int)).bind λg=>some g else none
def iM (b:ByteArray) (a:Int):Option (Int) :=
  some (ixB b a)
def jN (b:ByteArray) (a:ByteArray):Option (Int) :=
  (bif ((a.size:Int)==0)then some true else some (sEq a b)).bind λe=>bif e then some 0 else bif ((a.size:Int)==1)then (qH a 0).bind λc=>(iM b (c.toNat:Int)).bind λd=>some d else bif (decide ((a.size:Int)>=(b.size:Int)))then some (-1)else none
def strings_Index (b:ByteArray) (c:ByteArray):Option (Int) :=
  (jN b c).bind λa=>some a
def strings_Contains (b:ByteArray) (c:ByteArray):Option (Bool) :=
  (strings_Index b c).bind λa=>some (decide (a>=0))
def qm (b:ByteArray) (a:Int):Option (Ctl (Int) (Bool)) :=
  bif (decide (a<(b.size:Int)))then ((qH b a).bind λc=>bif (decide ((c.toNat:Int)<32))then some true else (qH b a).bind λd=>some ((d.toNat:Int)==127)).bind λe=>bif e then some (.ret false)else some (.go (w64 (a+1)))else some (.brk a)
noncomputable def rE (a:ByteArray):Option (Bool) :=
  (iV 0 (λs=>qm a s)).bind λb=>thenC b (λg=>((gD a).bind λc=>bif c then (qg a (⟨#[32]⟩:ByteArray)).bind λd=>bif (sEq d a)then (strings_Contains a (⟨#[32,32]⟩:ByteArray)).bind λe=>some (!e)else some false else some false).bind λf=>some f) (λr=>some r)
def kM (c:Nat) (b:Rect) (d:Unit):Option (Ctl (Unit) (Int)) :=
  (nN b).bind λa=>bif (a != 0)then some (.ret a)else some (.go ())
noncomputable def kP (a:Alert):Option (Int) :=
  ((fG a.Id).bind λi=>bif (!i)then some true else (fG a.Sender).bind λj=>some (!j)).bind λm=>bif m then some 5 else (aR a.Kind 1 3).bind λd=>bif d then some 4 else (lY a).bind λb=>bif (b != 0)then some b else ((dE a.At).bind λe=>bif (!e)then some true else (aR a.Until (w64 (a.At+1)) (w64 (a.At+2592000000))).bind λf=>bif f then some true else (aR a.Weight 1 9).bind λg=>some g).bind λl=>bif l then some 1 else bif (decide ((a.Areas.length:Int)>20))then some 2 else (forL a.Areas () (λk x s=>kM k x s)).bind λc=>thenC c (λo=>bif (!((a.Kind==3)==((a.Areas.length:Int)==0)))then some 3 else bif (decide ((a.Text.size:Int)>500))then some 2 else ((rE a.Text).bind λh=>bif (!h)then some true else bif (sEq a.Text (⟨#[]⟩:ByteArray))then some (!(a.Kind==3))else some false).bind λn=>bif n then some 3 else some 0) (λr=>some r)
def qY (a:Alert) (b:Alert):Option (Int) :=
  (cmp_Compare_int a.At b.At).bind λc=>(strings_Compare a.Id b.Id).bind λd=>(o8 ([c,d]:List Int)).bind λe=>some e
noncomputable def jd (d:(List Alert)) (a:Nat) (c:Alert) (h:Unit):Option (Ctl (Unit) (Int)) :=
  (kP c).bind λb=>bif (b != 0)then some (.ret b)else (bif (decide ((a:Int)>0))then (idx d (w64 ((a:Int)-1))).bind λg=>(qY g c).bind λe=>some (decide (e>=0))else some false).bind λf=>bif f then some (.ret 7)else some (.go ())
def jW (c:Nat) (b:Alert) (a:(List (ByteArray×Bool))):Option (Ctl ((List (ByteArray×Bool))) (Int)) :=
  bif ((dK eqS a b.Id).getD false)then some (.ret 6)else some (.go (Dt eqS a b.Id true))
noncomputable def ku (a:(List Alert)):Option (Int) :=
  bif (decide ((a.length:Int)>300))then some 2 else (forL a () (λk x s=>jd a k x s)).bind λb=>thenC b (λe=>(forL a ([]:List (ByteArray×Bool)) (λk x s=>jW k x s)).bind λc=>thenC c (λd=>some 0) (λr=>some r)) (λr=>some r)
noncomputable def jv (c:(List Post)) (b:Nat) (a:Post) (j:Unit):Option (Ctl (Unit) (Int)) :=
  (fG a.Player).bind λd=>bif (!d)then some (.ret 5)else ((aR a.X (-100000) 100000).bind λe=>bif e then some true else (aR a.Y (-100000) 100000).bind λf=>some f).bind λg=>bif g then some (.ret 1)else (bif (decide ((b:Int)>0))then (idx c (w64 ((b:Int)-1))).bind λi=>some (sLe a.Player i.Player)else some false).bind λh=>bif h then some (.ret 7)else some (.go ())
noncomputable def lh (a:(List Post)):Option (Int) :=
  bif (decide ((a.length:Int)>500))then some 2 else (forL a () (λk x s=>jv a k x s)).bind λb=>thenC b (λc=>some 0) (λr=>some r)
noncomputable def lW (b:(List Alert)) (c:(List Post)):Option (Int) :=
  (ku b).bind λa=>bif (a != 0)then some a else (lh c).bind λd=>some d
def sO (a:Rect) (b:Post):Option (Bool) :=
  (bif (decide (a.X<=b.X))then bif (decide (b.X<(w64 (a.X+a.W))))then bif (decide (a.Y<=b.Y))then some (decide (b.Y<(w64 (a.Y+a.H))))else some false else some false else some false).bind λc=>some c
def fI (a:Rect->Option Bool) (b:Nat) (d:Rect) (e:Unit):Option (Ctl (Unit) (Int)) :=
  (a d).bind λc=>bif c then some (.ret (b:Int))else some (.go ())
def gN (c:(List Rect)) (a:Rect->Option Bool):Option (Int) :=
  (forL c () (λk x s=>fI a k x s)).bind λb=>thenC b (λd=>some (-1)) (λr=>some r)
def fJ (c:(List Rect)) (a:Rect->Option Bool):Option (Bool) :=
  (gN c a).bind λb=>some (decide (b>=0))
def ru (a:Alert) (b:Post):Option (Bool) :=
  (fJ a.Areas (λx0=>sO x0 b)).bind λc=>some c
noncomputable def oH (a:Alert) (b:Post):Option (Bool×Int) :=
  (lW ([a]:List Alert) ([b]:List Post)).bind λc=>bif (c != 0)then some (false,c)else (ru a b).bind λd=>some (d,0)
def xL (b:Nat) (a:Int) (c:Unit):Option (Ctl (Unit) (Int)) :=
  bif (a != 0)then some (.ret a)else some (.go ())
def zV (a:(List Int)):Option (Int) :=
  (forL a () (λk x s=>xL k x s)).bind λb=>thenC b (λc=>some 0) (λr=>some r)
noncomputable def qR  : Option (Bool) :=
  (r9 ([(⟨0,0,2,2⟩:Rect),(⟨1,1,2,2⟩:Rect)]:List Rect)).bind λa=>(mV (⟨(⟨#[97]⟩:ByteArray),(⟨#[98]⟩:ByteArray),0,0,0,1,127,([]:List Int),1,2,0,([]:List ByteArray),false⟩:Entry) 0 (⟨0,86400000⟩:Window)).bind λc=>(rA (⟨(⟨#[97]⟩:ByteArray),(⟨#[]⟩:ByteArray),(⟨0,100⟩:Window),([]:List ByteArray),10,0,0⟩:Campaign) 50).bind λd=>(rU ([(⟨(⟨#[112]⟩:ByteArray),0,100⟩:Beat),(⟨(⟨#[112]⟩:ByteArray),1000,1300⟩:Beat)]:List Beat) (⟨#[112]⟩:ByteArray) 700).bind λe=>(oH (⟨(⟨#[97]⟩:ByteArray),(⟨#[115]⟩:ByteArray),1,([]:List ByteArray),0,5,1,([(⟨0,0,2,2⟩:Rect)]:List Rect),(⟨#[120]⟩:ByteArray)⟩:Alert) (⟨(⟨#[112]⟩:ByteArray),1,1⟩:Post)).bind λb=>((zV ([a.2,c.2,d.2,e.2,b.2]:List Int)).bind λf=>bif (f==0)then bif (a.1==7)then bif ((c.1.length:Int)==1)then bif (d.1==5)then bif (e.1==500)then some b.1 else some false else some false else some false else some false else some false).bind λg=>some g
def gy (b:(List Entry)×Int) (a:Nat) (h:Nat) (g:Unit):Option (Ctl (Unit) (Unit)) :=
  (inR (a:Int) b.1).bind λ_=>(b.1[(0+((a:Int)).toNat)]?).bind λc=>(j5 c.Tags).bind λe=>(inR (a:Int) b.1).bind λ_=>(b.1[(0+((a:Int)).toNat)]?).bind λd=>(mr d.Except).bind λf=>some (.go ())
noncomputable def lv (d:(List Int)):Option (Bool) :=
  (fM (⟨d,0⟩:Stream)).bind λa=>(gu a.2).bind λc=>(fM (⟨d,0⟩:Stream)).bind λe=>(gu e.2).bind λi=>(mR a.1 ([]:List Entry)).bind λb=>(forL (List.range ((b.1.length:Int)).toNat) () (λk x s=>gy b k x s)).bind λh=>thenC h (λr=>(jh b.1).bind λq=>(qf a.1 c.1 0).bind λf=>(kw f.1).bind λj=>(mo j f.1).bind λ_=>(lc a.1 c.1 (⟨0,86400000⟩:Window)).bind λg=>(jA g.1).bind λl=>(mo l g.1).bind λ_=>((bL a.1 e.1).bind λm=>bif m then (ek c.1.Tags i.1.Tags).bind λn=>bif n then (qR).bind λo=>some o else some false else some false).bind λp=>some p) (λ_=>none)
end Go.Proofs.YtadpbmfnnlkdlabGreatDoor.Law

