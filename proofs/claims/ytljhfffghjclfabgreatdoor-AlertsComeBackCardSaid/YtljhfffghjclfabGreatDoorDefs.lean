/-
  The functions of the program, as plain functions over data (written by a program of ours).
-/
import Derived.Test.YtljhfffghjclfabGreatDoorEng5
open Go Go.Eng
namespace Go.Proofs.YtljhfffghjclfabGreatDoor.Law
set_option maxRecDepth 100000
set_option linter.unusedVariables false
set_option maxHeartbeats 1000000
structure Stream where
  L:(List Int)
  f_at:Int
def Stream.enc (s:Stream):List D:=[dl eI s.L,.int .i64 s.f_at]

structure Rect where
  X:Int
  Y:Int
  W:Int
  H:Int
def Rect.enc (s:Rect):List D:=[.int .i64 s.X,.int .i64 s.Y,.int .i64 s.W,.int .i64 s.H]
abbrev Rect.v (s:Rect):List V:=[(vI s.X),(vI s.Y),(vI s.W),(vI s.H)]

structure Alert where
  Id:ByteArray
  Sender:ByteArray
  Kind:Int
  Refs:(List ByteArray)
  At:Int
  Until:Int
  Weight:Int
  Areas:(List Rect)
  Text:ByteArray
def Alert.enc (s:Alert):List D:=[.str s.Id,.str s.Sender,.int .i64 s.Kind,dl eS s.Refs,.int .i64 s.At,.int .i64 s.Until,.int .i64 s.Weight,dl Rect.enc s.Areas,.str s.Text]
abbrev Alert.v (s:Alert):List V:=[(vS s.Id),(vS s.Sender),(vI s.Kind),(vL eS s.Refs),(vI s.At),(vI s.Until),(vI s.Weight),(vL Rect.enc s.Areas),(vS s.Text)]

structure Run where
  f_from:Int
  f_to:Int
def Run.enc (s:Run):List D:=[.int .i64 s.f_from,.int .i64 s.f_to]

structure Entry where
  Key:ByteArray
  Item:ByteArray
  Version:Int
  First:Int
  Last:Int
  Every:Int
  Days:Int
  Except:(List Int)
  From:Int
  To:Int
  Prio:Int
  Tags:(List ByteArray)
  Gone:Bool
def Entry.enc (s:Entry):List D:=[.str s.Key,.str s.Item,.int .i64 s.Version,.int .i64 s.First,.int .i64 s.Last,.int .i64 s.Every,.int .i64 s.Days,dl eI s.Except,.int .i64 s.From,.int .i64 s.To,.int .i64 s.Prio,dl eS s.Tags,.bool s.Gone]
abbrev Entry.v (s:Entry):List V:=[(vS s.Key),(vS s.Item),(vI s.Version),(vI s.First),(vI s.Last),(vI s.Every),(vI s.Days),(vL eI s.Except),(vI s.From),(vI s.To),(vI s.Prio),(vL eS s.Tags),(vB s.Gone)]

structure Window where
  From:Int
  To:Int
def Window.enc (s:Window):List D:=[.int .i64 s.From,.int .i64 s.To]

structure Campaign where
  Key:ByteArray
  Class:ByteArray
  Time:Window
  Tags:(List ByteArray)
  Goal:Int
  Most:Int
  Cents:Int
def Campaign.enc (s:Campaign):List D:=[.str s.Key,.str s.Class,.int .i64 s.Time.From,.int .i64 s.Time.To,dl eS s.Tags,.int .i64 s.Goal,.int .i64 s.Most,.int .i64 s.Cents]
abbrev Campaign.v (s:Campaign):List V:=[(vS s.Key),(vS s.Class),(vI s.Time.From),(vI s.Time.To),(vL eS s.Tags),(vI s.Goal),(vI s.Most),(vI s.Cents)]

structure Beat where
  Player:ByteArray
  At:Int
  Clock:Int
def Beat.enc (s:Beat):List D:=[.str s.Player,.int .i64 s.At,.int .i64 s.Clock]
abbrev Beat.v (s:Beat):List V:=[(vS s.Player),(vI s.At),(vI s.Clock)]

structure Beat_ where
  f_from:Int
  f_to:Int
def Beat_.enc (s:Beat_):List D:=[.int .i64 s.f_from,.int .i64 s.f_to]

structure Post where
  Player:ByteArray
  X:Int
  Y:Int
def Post.enc (s:Post):List D:=[.str s.Player,.int .i64 s.X,.int .i64 s.Y]
abbrev Post.v (s:Post):List V:=[(vS s.Player),(vI s.X),(vI s.Y)]

def Alert.encN (s:Alert):List D:=[.str s.Id,.str s.Sender,.int .i64 s.Kind,.nils,.int .i64 s.At,.int .i64 s.Until,.int .i64 s.Weight,.nils,.str s.Text]

def Alert.al:AlK where
  A:=Alert
  R1:=ByteArray
  R2:=Rect
  enc:=Alert.enc
  encN:=Alert.encN
  lc:=λu v s=>[(vS s.Id),(vS s.Sender),(vI s.Kind),u,(vI s.At),(vI s.Until),(vI s.Weight),v,(vS s.Text)]
  f1:=Alert.Refs
  f2:=Alert.Areas
  e1:=eS
  e2:=Rect.enc
  sz:=9
  s1:=1
  s2:=4
  len:=λ_=>rfl
  lenN:=λ_=>rfl
  lcd:=λ_=>rfl
  lcl:=λ_ _ _=>rfl
  ren:=λ_ _ _ _=>rfl
  ok:=λk u v _ h1 h2=>by simp [okL,okV,h1,h2]
  co:=λ_ _ _ _=>rfl
  nild:=λ_ _ _=>(.same _ (.same _ (.same _ (.nils (.same _ (.same _ (.same _ (.nils (.same _ .nil)))))))))
  sz1:=by decide
  sz2:=by decide

def sP (d:Int) (a:Int):Option (Int) :=
  bif (decide (a<1))then some 0 else (KN .i64 d a).bind λb=>(bif (decide (b<0))then some (w64 (b+a))else some b).bind λc=>some c
def eB (a:Stream) (b:Int):Option (Int×Stream) :=
  bif ((a.L.length:Int)==0)then (sP (w64 ((w64 (a.f_at+1))*7919)) b).bind λg=>some (g,(⟨a.L,(w64 (a.f_at+1))⟩:Stream))else (KN .i64 (w64 ((w64 (a.f_at+1))-1)) (a.L.length:Int)).bind λc=>(MP .i64 (w64 ((w64 (a.f_at+1))-1)) (a.L.length:Int)).bind λd=>(idx a.L c).bind λh=>(sP h 1073741824).bind λe=>(sP (w64 (e+(w64 (d*(w64 (7919+c)))))) b).bind λf=>some (f,(⟨a.L,(w64 (a.f_at+1))⟩:Stream))
def dG (d:Stream) (a:Int) (b:Int):Option (Int×Stream) :=
  bif (decide (b<a))then some (a,d)else (eB d (w64 ((w64 (b-a))+1))).bind λc=>some ((w64 (a+c.1)),c.2)
def gp (c:Stream) (a:(List ByteArray)):Option (ByteArray×Stream) :=
  (eB c (a.length:Int)).bind λb=>(idx a b.1).bind λd=>some (d,b.2)
def iw (c:Stream) (a:(List Int)):Option (Int×Stream) :=
  (eB c (a.length:Int)).bind λb=>(idx a b.1).bind λd=>some (d,b.2)
def jX (c:Stream) (b:Int):Option (Bool×Stream) :=
  (eB c b).bind λa=>some ((a.1==0),a.2)
def iK (e:Stream):Option (Rect×Stream) :=
  (dG e (-2) 8).bind λb=>(dG b.2 (-2) 8).bind λc=>(dG c.2 1 5).bind λd=>(dG d.2 1 5).bind λa=>some ((⟨b.1,c.1,d.1,a.1⟩:Rect),a.2)
def kR (a:Alert) (b:Alert):Option (Int) :=
  bif (a.At != b.At)then some (w64 (a.At-b.At))else bif (sLt a.Id b.Id)then some (-1)else some 1
def qy (c:Int):Option (Int) :=
  (bif (decide (c>=4294967296))then (O3 .u64 c 32).bind λh=>some (h,32)else some (c,0)).bind λa=>(bif (decide (a.1>=65536))then (O3 .u64 a.1 16).bind λf=>some (f,(w64 (a.2+16)))else some (a.1,a.2)).bind λb=>(bif (decide (b.1>=256))then (O3 .u64 b.1 8).bind λg=>some (g,(w64 (b.2+8)))else some (b.1,b.2)).bind λd=>(yV (⟨#[0,1,2,2,3,3,3,3,4,4,4,4,4,4,4,4,5,5,5,5,5,5,5,5,5,5,5,5,5,5,5,5,6,6,6,6,6,6,6,6,6,6,6,6,6,6,6,6,6,6,6,6,6,6,6,6,6,6,6,6,6,6,6,6,7,7,7,7,7,7,7,7,7,7,7,7,7,7,7,7,7,7,7,7,7,7,7,7,7,7,7,7,7,7,7,7,7,7,7,7,7,7,7,7,7,7,7,7,7,7,7,7,7,7,7,7,7,7,7,7,7,7,7,7,7,7,7,7,8,8,8,8,8,8,8,8,8,8,8,8,8,8,8,8,8,8,8,8,8,8,8,8,8,8,8,8,8,8,8,8,8,8,8,8,8,8,8,8,8,8,8,8,8,8,8,8,8,8,8,8,8,8,8,8,8,8,8,8,8,8,8,8,8,8,8,8,8,8,8,8,8,8,8,8,8,8,8,8,8,8,8,8,8,8,8,8,8,8,8,8,8,8,8,8,8,8,8,8,8,8,8,8,8,8,8,8,8,8,8,8,8,8,8,8,8,8,8,8,8,8,8,8,8,8,8,8]⟩:ByteArray) (IntKind.u8.wrap d.1)).bind λe=>some (w64 (d.2+(w64 (e.toNat:Int))))
def iV (b:Int):Option (Int) :=
  (qy b).bind λa=>some a
def dJ (c:Int) (a:(List Alert)×Int):Option (Ctl ((List Alert)×Int) (Unit)) :=
  (bif (decide (a.2>c))then (inR a.2 a.1).bind λ_=>(a.1[(0+(a.2).toNat)]?).bind λd=>(inR (w64 (a.2-1)) a.1).bind λ_=>(a.1[(0+((w64 (a.2-1))).toNat)]?).bind λe=>(kR d e).bind λg=>some (decide (g<0))else some false).bind λh=>bif h then (inR (w64 (a.2-1)) a.1).bind λ_=>(a.1[(0+((w64 (a.2-1))).toNat)]?).bind λb=>(inR a.2 a.1).bind λ_=>(a.1[(0+(a.2).toNat)]?).bind λf=>(inR a.2 a.1).bind λ_=>(a.1[(0+(a.2).toNat)]?).bind λi=>(inR (w64 (a.2-1)) (a.1.set (0+(a.2).toNat) b)).bind λ_=>((a.1.set (0+(a.2).toNat) b)[(0+((w64 (a.2-1))).toNat)]?).bind λj=>some (.go (((a.1.set (0+(a.2).toNat) b).set (0+((w64 (a.2-1))).toNat) f),(w64 (a.2-1))))else some (.brk (a.1,a.2))
noncomputable def dI (c:Int) (b:Int) (a:(List Alert)×Int):Option (Ctl ((List Alert)×Int) (Unit)) :=
  bif (decide (a.2<c))then (jH (a.1,a.2) (λs=>dJ b s)).bind λd=>thenC d (λe=>some (.go (e.1,(w64 (a.2+1))))) (λ_=>none)else some (.brk (a.1,a.2))
noncomputable def dS (c:(List Alert)) (a:Int) (b:Int):Option ((List Alert)) :=
  (jH (c,(w64 (a+1))) (λs=>dI b a s)).bind λd=>thenC d (λe=>some e.1) (λ_=>none)
noncomputable def eF (b:Int) (a:Int) (c:(List Alert)) (e:Int) (f:Unit):Option (Ctl (Unit) ((List Alert))) :=
  bif (decide ((w64 (b-a))<=12))then (dS c a b).bind λd=>(ni d c).bind λ_=>some (.ret d)else bif (e==0)then none else none
noncomputable def fK (a:(List Alert)) (b:Int) (c:Int) (d:Int):Option ((List Alert)) :=
  (jH () (λs=>eF c b a d s)).bind λe=>thenC e (λf=>some a) (λr=>some r)
noncomputable def bS (a:(List Alert)):Option ((List Alert)) :=
  (iV (IntKind.u64.wrap (a.length:Int))).bind λc=>(fK a 0 (a.length:Int) c).bind λb=>(ni b a).bind λ_=>some b
def dz (g:ByteArray) (h:Nat) (d:ByteArray) (a:(List ByteArray)×(List Int)×Int):Option (Ctl ((List ByteArray)×(List Int)×Int) (Unit)) :=
  (bif (sNe d g)then (jX (⟨a.2.1,a.2.2⟩:Stream) 3).bind λb=>some (b.1,b.2.L,b.2.f_at)else some (false,a.2.1,a.2.2)).bind λc=>(bif c.1 then (jE a.1 ([d]:List ByteArray)).bind λe=>some e else some a.1).bind λf=>some (.go (f,c.2.1,c.2.2))
def dA (d:Nat) (e:Nat) (b:(List Rect)×(List Int)×Int):Option (Ctl ((List Rect)×(List Int)×Int) (Unit)) :=
  (iK (⟨b.2.1,b.2.2⟩:Stream)).bind λa=>(jE b.1 ([a.1]:List Rect)).bind λc=>some (.go (c,a.2.L,a.2.f_at))
def dR (t:Nat) (o:ByteArray) (i:(List Alert)×(List Int)×Int):Option (Ctl ((List Alert)×(List Int)×Int) (Unit)) :=
  (gp (⟨i.2.1,i.2.2⟩:Stream) ([(⟨#[119,120]⟩:ByteArray),(⟨#[119,120]⟩:ByteArray),(⟨#[102,105,114,101]⟩:ByteArray)]:List ByteArray)).bind λl=>(iw l.2 ([1,1,2,2,3]:List Int)).bind λd=>(dG d.2 0 6).bind λf=>(iw f.2 ([1,5,5,9]:List Int)).bind λm=>(gp m.2 ([(⟨#[102,108,111,111,100]⟩:ByteArray),(⟨#[102,105,114,101,32,105,110,32,116,104,101,32,109,97,108,108]⟩:ByteArray)]:List ByteArray)).bind λn=>(iw n.2 ([1,10,20,50]:List Int)).bind λb=>(bif (d.1 != 1)then (forL ([(⟨#[97,97]⟩:ByteArray),(⟨#[97,98]⟩:ByteArray),(⟨#[97,99]⟩:ByteArray),(⟨#[97,100]⟩:ByteArray),(⟨#[122,122]⟩:ByteArray)]:List ByteArray) (([]:List ByteArray),b.2.L,b.2.f_at) (λk x s=>dz o k x s)).bind λq=>thenC q (λa=>bif ((a.1.length:Int)==0)then some (a.2.1,a.2.2,([(⟨#[122,121]⟩:ByteArray)]:List ByteArray))else some (a.2.1,a.2.2,a.1)) (λ_=>none)else some (b.2.L,b.2.f_at,([]:List ByteArray))).bind λc=>(bif (d.1==3)then (gp (⟨c.1,c.2.1⟩:Stream) ([(⟨#[]⟩:ByteArray),(⟨#[111,118,101,114]⟩:ByteArray)]:List ByteArray)).bind λg=>some (([]:List Rect),g.2.L,g.2.f_at,g.1)else (dG (⟨c.1,c.2.1⟩:Stream) 1 2).bind λh=>(forL (List.range (h.1).toNat) (([]:List Rect),h.2.L,h.2.f_at) (λk x s=>dA k x s)).bind λr=>thenC r (λj=>some (j.1,j.2.1,j.2.2,n.1)) (λ_=>none)).bind λe=>(jE i.1 ([(⟨o,l.1,d.1,c.2.2,(w64 (f.1*5)),(w64 ((w64 (f.1*5))+b.1)),m.1,e.1,e.2.2.2⟩:Alert)]:List Alert)).bind λp=>some (.go (p,e.2.1,e.2.2.1))
noncomputable def dU (f:Stream) (d:Int):Option ((List Alert)×Stream) :=
  (dG f 0 d).bind λb=>(uw ([(⟨#[97,97]⟩:ByteArray),(⟨#[97,98]⟩:ByteArray),(⟨#[97,99]⟩:ByteArray),(⟨#[97,100]⟩:ByteArray),(⟨#[97,101]⟩:ByteArray),(⟨#[97,102]⟩:ByteArray)]:List ByteArray) 0 b.1).bind λg=>(forL g (([]:List Alert),b.2.L,b.2.f_at) (λk x s=>dR k x s)).bind λe=>thenC e (λa=>(bS a.1).bind λc=>(ni c a.1).bind λ_=>some (c,(⟨a.2.1,a.2.2⟩:Stream))) (λ_=>none)
def jC (c:ByteArray) (b:Int):Option (Ctl (Int) (Bool)) :=
  bif (decide (b<(c.size:Int)))then (yV c b).bind λa=>(bif (decide ((a.toNat:Int)>=97))then bif (decide ((a.toNat:Int)<=122))then some false else bif (decide (b>0))then bif (decide ((a.toNat:Int)>=48))then bif (decide ((a.toNat:Int)<=57))then some false else bif ((a.toNat:Int)==45)then some false else some (!((a.toNat:Int)==95))else bif ((a.toNat:Int)==45)then some false else some (!((a.toNat:Int)==95))else some true else bif (decide (b>0))then bif (decide ((a.toNat:Int)>=48))then bif (decide ((a.toNat:Int)<=57))then some false else bif ((a.toNat:Int)==45)then some false else some (!((a.toNat:Int)==95))else bif ((a.toNat:Int)==45)then some false else some (!((a.toNat:Int)==95))else some true).bind λd=>bif d then some (.ret false)else some (.go (w64 (b+1)))else some (.brk b)
noncomputable def kit_IsKey (a:ByteArray):Option (Bool) :=
  (jH 0 (λs=>jC a s)).bind λb=>thenC b (λd=>(bif (sNe a (⟨#[]⟩:ByteArray))then some (decide ((a.size:Int)<=40))else some false).bind λc=>some c) (λr=>some r)
def aQ (a:Int) (c:Int) (b:Int):Option (Bool) :=
  (bif (decide (a<c))then some true else some (decide (a>b))).bind λd=>some d
noncomputable def dx (b:Alert) (c:Nat) (a:ByteArray) (g:Unit):Option (Ctl (Unit) (Int)) :=
  (kit_IsKey a).bind λd=>bif (!d)then some (.ret 5)else (bif (decide ((c:Int)>0))then (idx b.Refs (w64 ((c:Int)-1))).bind λf=>some (sLe a f)else some false).bind λe=>bif e then some (.ret 7)else bif (sEq a b.Id)then some (.ret 14)else some (.go ())
noncomputable def fF (a:Alert):Option (Int) :=
  bif (decide ((a.Refs.length:Int)>20))then some 2 else (forL a.Refs () (λk x s=>dx a k x s)).bind λb=>thenC b (λc=>bif (!((a.Kind==1)==((a.Refs.length:Int)==0)))then some 3 else some 0) (λr=>some r)
def cZ (a:Int):Option (Bool) :=
  (bif (decide (a>=0))then some (decide (a<345686400000))else some false).bind λb=>some b
def gP (a:Rect):Option (Int) :=
  ((aQ a.X (-100000) 100000).bind λd=>bif d then some true else (aQ a.Y (-100000) 100000).bind λe=>some e).bind λg=>bif g then some 1 else ((aQ a.W 1 (w64 (100000-a.X))).bind λb=>bif b then some true else (aQ a.H 1 (w64 (100000-a.Y))).bind λc=>some c).bind λf=>bif f then some 1 else some 0
def gX (x0:ByteArray):Option (Bool) :=
  FU x0
def qW (x0:ByteArray) (x1:ByteArray):Option (ByteArray) :=
  Fj x0 x1
def strings_Contains (x0:ByteArray) (x1:ByteArray):Option (Bool) :=
  uX x0 x1
def fD (b:ByteArray) (a:Int):Option (Ctl (Int) (Bool)) :=
  bif (decide (a<(b.size:Int)))then ((yV b a).bind λc=>bif (decide ((c.toNat:Int)<32))then some true else (yV b a).bind λd=>some ((d.toNat:Int)==127)).bind λe=>bif e then some (.ret false)else some (.go (w64 (a+1)))else some (.brk a)
noncomputable def iX (a:ByteArray):Option (Bool) :=
  (jH 0 (λs=>fD a s)).bind λb=>thenC b (λg=>((gX a).bind λc=>bif c then (qW a (⟨#[32]⟩:ByteArray)).bind λd=>bif (sEq d a)then (strings_Contains a (⟨#[32,32]⟩:ByteArray)).bind λe=>some (!e)else some false else some false).bind λf=>some f) (λr=>some r)
def dF (c:Nat) (b:Rect) (d:Unit):Option (Ctl (Unit) (Int)) :=
  (gP b).bind λa=>bif (a != 0)then some (.ret a)else some (.go ())
noncomputable def eQ (a:Alert):Option (Int) :=
  ((kit_IsKey a.Id).bind λi=>bif (!i)then some true else (kit_IsKey a.Sender).bind λj=>some (!j)).bind λm=>bif m then some 5 else (aQ a.Kind 1 3).bind λd=>bif d then some 4 else (fF a).bind λb=>bif (b != 0)then some b else ((cZ a.At).bind λe=>bif (!e)then some true else (aQ a.Until (w64 (a.At+1)) (w64 (a.At+2592000000))).bind λf=>bif f then some true else (aQ a.Weight 1 9).bind λg=>some g).bind λl=>bif l then some 1 else bif (decide ((a.Areas.length:Int)>20))then some 2 else (forL a.Areas () (λk x s=>dF k x s)).bind λc=>thenC c (λo=>bif (!((a.Kind==3)==((a.Areas.length:Int)==0)))then some 3 else bif (decide ((a.Text.size:Int)>500))then some 2 else ((iX a.Text).bind λh=>bif (!h)then some true else bif (sEq a.Text (⟨#[]⟩:ByteArray))then some (!(a.Kind==3))else some false).bind λn=>bif n then some 3 else some 0) (λr=>some r)
def cmp_isNaN_int (a:Int):Option (Bool) :=
  some (a != a)
def cmp_Compare_int (a:Int) (b:Int):Option (Int) :=
  (cmp_isNaN_int a).bind λd=>(cmp_isNaN_int b).bind λc=>bif d then bif c then some 0 else some (-1)else bif c then some 1 else bif (decide (a<b))then some (-1)else bif (decide (a>b))then some 1 else some 0
def gN (a:ByteArray) (b:ByteArray):Option (Int) :=
  some (FN a b)
def strings_Compare (a:ByteArray) (b:ByteArray):Option (Int) :=
  (gN a b).bind λc=>some c
def pV (b:Nat) (a:Int) (c:Unit):Option (Ctl (Unit) (Int)) :=
  bif (a != 0)then some (.ret a)else some (.go ())
def pU (b:(List Int)):Option (Int) :=
  (forL b () (λk x s=>pV k x s)).bind λa=>thenC a (λc=>some 0) (λr=>some r)
def ic (a:Alert) (b:Alert):Option (Int) :=
  (cmp_Compare_int a.At b.At).bind λc=>(strings_Compare a.Id b.Id).bind λd=>(pU ([c,d]:List Int)).bind λe=>some e
noncomputable def cK (d:(List Alert)) (a:Nat) (c:Alert) (h:Unit):Option (Ctl (Unit) (Int)) :=
  (eQ c).bind λb=>bif (b != 0)then some (.ret b)else (bif (decide ((a:Int)>0))then (idx d (w64 ((a:Int)-1))).bind λg=>(ic g c).bind λe=>some (decide (e>=0))else some false).bind λf=>bif f then some (.ret 7)else some (.go ())
def bH (c:Nat) (b:Alert) (a:(List (ByteArray×Bool))):Option (Ctl ((List (ByteArray×Bool))) (Int)) :=
  bif ((zH eqS a b.Id).getD false)then some (.ret 6)else some (.go (BO eqS a b.Id true))
noncomputable def bO (a:(List Alert)):Option (Int) :=
  bif (decide ((a.length:Int)>300))then some 2 else (forL a () (λk x s=>cK a k x s)).bind λb=>thenC b (λe=>(forL a ([]:List (ByteArray×Bool)) (λk x s=>bH k x s)).bind λc=>thenC c (λd=>some 0) (λr=>some r)) (λr=>some r)
def gz  : Option ((List ByteArray)) :=
  some ([(⟨#[]⟩:ByteArray),(⟨#[110,101,119]⟩:ByteArray),(⟨#[117,112,100,97,116,101]⟩:ByteArray),(⟨#[99,97,110,99,101,108]⟩:ByteArray)]:List ByteArray)
def strconv_Itoa (x0:Int):Option (ByteArray) :=
  M7 x0
def jS (f:Nat) (e:Int) (d:ByteArray):Option (Ctl (ByteArray) (Unit)) :=
  (strconv_Itoa e).bind λa=>(fu (⟨#[32]⟩:ByteArray) a).bind λb=>(fu d b).bind λc=>some (.go c)
def mh (a:ByteArray) (b:(List Int)):Option (ByteArray) :=
  (forL b a (λk x s=>jS k x s)).bind λc=>thenC c (λe=>(fu e (⟨#[10]⟩:ByteArray)).bind λd=>some d) (λ_=>none)
def kU (f:Nat) (e:ByteArray) (b:(List Int)):Option (Ctl ((List Int)) (Unit)) :=
  (fu (⟨#[114,101,102,32]⟩:ByteArray) e).bind λc=>(fu c (⟨#[10]⟩:ByteArray)).bind λd=>(IU b d).bind λa=>some (.go a)
def kW (e:Nat) (a:Rect) (d:(List Int)):Option (Ctl ((List Int)) (Unit)) :=
  (mh (⟨#[97,114,101,97]⟩:ByteArray) ([a.X,a.Y,a.W,a.H]:List Int)).bind λc=>(IU d c).bind λb=>some (.go b)
def kQ (v:Nat) (a:Alert) (i:(List Int)):Option (Ctl ((List Int)) (Unit)) :=
  (fu (⟨#[97,108,101,114,116,32]⟩:ByteArray) a.Id).bind λj=>(fu j (⟨#[32]⟩:ByteArray)).bind λl=>(fu l a.Sender).bind λm=>(fu m (⟨#[32]⟩:ByteArray)).bind λn=>(gz).bind λg=>(idx g a.Kind).bind λu=>(fu n u).bind λo=>(mh o ([a.At,a.Until,a.Weight]:List Int)).bind λh=>(IU i h).bind λc=>(forL a.Refs c (λk x s=>kU k x s)).bind λe=>thenC e (λp=>(forL a.Areas p (λk x s=>kW k x s)).bind λf=>thenC f (λb=>(bif (sNe a.Text (⟨#[]⟩:ByteArray))then (fu (⟨#[116,101,120,116,32]⟩:ByteArray) a.Text).bind λq=>(fu q (⟨#[10]⟩:ByteArray)).bind λr=>(IU b r).bind λd=>some d else some b).bind λt=>some (.go t)) (λ_=>none)) (λ_=>none)
noncomputable def nI (a:(List Alert)):Option (ByteArray×Int) :=
  (bO a).bind λb=>bif (b != 0)then some ((⟨#[]⟩:ByteArray),b)else (forL a ([]:List Int) (λk x s=>kQ k x s)).bind λd=>thenC d (λc=>bif (decide ((c.length:Int)>200000))then some ((⟨#[]⟩:ByteArray),2)else (Ce c).bind λe=>some (e,0)) (λ_=>none)
def strings_Split (x0:ByteArray) (x1:ByteArray):Option ((List ByteArray)) :=
  El x0 x1
def yC (b:ByteArray):Option ((List ByteArray)×Bool) :=
  (strings_Split b (⟨#[10]⟩:ByteArray)).bind λa=>(idx a (w64 ((a.length:Int)-1))).bind λc=>bif (sEq c (⟨#[]⟩:ByteArray))then (uw a 0 (w64 ((a.length:Int)-1))).bind λd=>some (d,true)else some (a,false)
def bQ (b:ByteArray) (a:ByteArray):Option (Bool) :=
  (bif (decide ((b.size:Int)>=(a.size:Int)))then (rW b 0 (a.size:Int)).bind λd=>some (sEq d a)else some false).bind λc=>some c
def eG (a:ByteArray) (b:ByteArray):Option (ByteArray×Bool) :=
  (bQ a b).bind λc=>bif (!c)then some (a,false)else (rW a (b.size:Int) a.size).bind λd=>some (d,true)
def strings_CutPrefix (c:ByteArray) (b:ByteArray):Option (ByteArray×Bool) :=
  (eG c b).bind λa=>some (a.1,a.2)
def bA (b:ByteArray) (a:Nat) (c:ByteArray) (d:Unit):Option (Ctl (Unit) (Int)) :=
  bif (sEq b c)then some (.ret (a:Int))else some (.go ())
def bu (b:(List ByteArray)) (c:ByteArray):Option (Int) :=
  (forL b () (λk x s=>bA c k x s)).bind λa=>thenC a (λd=>some (-1)) (λr=>some r)
def bU (b:(List ByteArray)) (c:ByteArray):Option (Bool) :=
  (bu b c).bind λa=>some (decide (a>=0))
def nY (c:ByteArray):Option ((List ByteArray)×Bool) :=
  (strings_Split c (⟨#[32]⟩:ByteArray)).bind λa=>(bU a (⟨#[]⟩:ByteArray)).bind λb=>some (a,(!b))
def dB (a:ByteArray) (b:ByteArray):Option (ByteArray) :=
  (bQ a b).bind λc=>bif c then (rW a (b.size:Int) a.size).bind λd=>some d else some a
def strings_TrimPrefix (c:ByteArray) (a:ByteArray):Option (ByteArray) :=
  (dB c a).bind λb=>some b
def strconv_Atoi (x0:ByteArray):Option (Int) :=
  Fh x0
def gZ (b:ByteArray) (a:Int):Option (Ctl (Int) (Int×Bool)) :=
  bif (decide (a<(b.size:Int)))then ((yV b a).bind λc=>bif (decide ((c.toNat:Int)<48))then some true else (yV b a).bind λd=>some (decide ((d.toNat:Int)>57))).bind λe=>bif e then some (.ret (0,false))else some (.go (w64 (a+1)))else some (.brk a)
noncomputable def nS (b:ByteArray) (d:Int):Option (Int×Bool) :=
  (strings_TrimPrefix b (⟨#[45]⟩:ByteArray)).bind λa=>(bif (sEq a (⟨#[]⟩:ByteArray))then some true else bif (decide ((a.size:Int)>d))then some true else (yV a 0).bind λc=>bif ((c.toNat:Int)==48)then some (sNe b (⟨#[48]⟩:ByteArray))else some false).bind λg=>bif g then some (0,false)else (jH 0 (λs=>gZ a s)).bind λe=>thenC e (λh=>(strconv_Atoi b).bind λf=>some (f,true)) (λr=>some r)
noncomputable def di (e:Nat) (d:ByteArray) (c:(List Int)):Option (Ctl ((List Int)) ((List Int)×Bool)) :=
  (nS d 15).bind λa=>bif (!a.2)then some (.ret (([]:(List Int)),false))else (jE c ([a.1]:List Int)).bind λb=>some (.go b)
noncomputable def fP (a:(List ByteArray)):Option ((List Int)×Bool) :=
  (forL a ([]:List Int) (λk x s=>di k x s)).bind λb=>thenC b (λc=>some (c,true)) (λr=>some r)
noncomputable def alert_readLine (a:(List Alert)) (i:ByteArray):Option ((List Alert)×Bool) :=
  (strings_CutPrefix i (⟨#[116,101,120,116,32]⟩:ByteArray)).bind λh=>bif h.2 then (bif ((a.length:Int)==0)then some true else bif (sEq h.1 (⟨#[]⟩:ByteArray))then some true else (inR (w64 ((a.length:Int)-1)) a).bind λ_=>(mQ a (w64 ((a.length:Int)-1))).bind λn=>some (sNe n.Text (⟨#[]⟩:ByteArray))).bind λt=>bif t then some (a,false)else (inR (w64 ((a.length:Int)-1)) a).bind λ_=>(mQ a (w64 ((a.length:Int)-1))).bind λd=>some ((setLast a (⟨d.Id,d.Sender,d.Kind,d.Refs,d.At,d.Until,d.Weight,d.Areas,h.1⟩:Alert)),true)else (nY i).bind λb=>bif (!b.2)then some (a,false)else ((idx b.1 0).bind λw=>bif (sEq w (⟨#[97,108,101,114,116]⟩:ByteArray))then some ((b.1.length:Int)==7)else some false).bind λq=>bif q then (gz).bind λp=>(idx b.1 3).bind λx=>(bu p x).bind λj=>(uw b.1 4 b.1.length).bind λy=>(fP y).bind λg=>(bif (!g.2)then some true else some (decide (j<1))).bind λr=>bif r then some (a,false)else (idx b.1 1).bind λz=>(idx b.1 2).bind λA=>(idx g.1 0).bind λB=>(idx g.1 1).bind λC=>(idx g.1 2).bind λE=>(jE a [(⟨z,A,j,[],B,C,E,[],(⟨#[]⟩:ByteArray)⟩:Alert)]).bind λl=>some (l,true)else (bif ((a.length:Int)==0)then some true else (inR (w64 ((a.length:Int)-1)) a).bind λ_=>(mQ a (w64 ((a.length:Int)-1))).bind λo=>some (sNe o.Text (⟨#[]⟩:ByteArray))).bind λs=>bif s then some (a,false)else (inR (w64 ((a.length:Int)-1)) a).bind λ_=>((idx b.1 0).bind λF=>bif (sEq F (⟨#[114,101,102]⟩:ByteArray))then bif ((b.1.length:Int)==2)then (mQ a (w64 ((a.length:Int)-1))).bind λN=>some (((dw Alert.Areas a).length:Int)==0)else some false else some false).bind λu=>bif u then (mQ a (w64 ((a.length:Int)-1))).bind λO=>(idx b.1 1).bind λG=>(jE (dw Alert.Refs a) ([G]:List ByteArray)).bind λm=>(mQ a (w64 ((a.length:Int)-1))).bind λe=>some ((setLast a (⟨e.Id,e.Sender,e.Kind,m,e.At,e.Until,e.Weight,e.Areas,e.Text⟩:Alert)),true)else ((idx b.1 0).bind λH=>bif (sEq H (⟨#[97,114,101,97]⟩:ByteArray))then some ((b.1.length:Int)==5)else some false).bind λv=>bif v then (uw b.1 1 b.1.length).bind λI=>(fP I).bind λf=>bif (!f.2)then some (a,false)else (mQ a (w64 ((a.length:Int)-1))).bind λP=>(idx f.1 0).bind λJ=>(idx f.1 1).bind λK=>(idx f.1 2).bind λL=>(idx f.1 3).bind λM=>(jE (dw Alert.Areas a) ([(⟨J,K,L,M⟩:Rect)]:List Rect)).bind λk=>(mQ a (w64 ((a.length:Int)-1))).bind λc=>some ((setLast a (⟨c.Id,c.Sender,c.Kind,c.Refs,c.At,c.Until,c.Weight,k,c.Text⟩:Alert)),true)else some (a,false)
noncomputable def fA (c:(List ByteArray)×Bool) (a:Nat) (f:ByteArray) (d:(List Alert)):Option (Ctl ((List Alert)) ((List Alert)×Int×Int)) :=
  (alert_readLine d f).bind λb=>(bif (!b.2)then some true else bif (!c.2)then some ((a:Int)==(w64 ((c.1.length:Int)-1)))else some false).bind λe=>bif e then some (.ret (([]:(List Alert)),(a:Int),9))else some (.go b.1)
noncomputable def lK (d:ByteArray):Option ((List Alert)×Int×Int) :=
  bif (decide ((d.size:Int)>200000))then some (([]:(List Alert)),0,2)else (yC d).bind λa=>(forL a.1 ([]:List Alert) (λk x s=>fA a k x s)).bind λe=>thenC e (λc=>(bO c).bind λb=>bif (b != 0)then some (([]:(List Alert)),0,b)else some (c,0,0)) (λr=>some r)
def oG  : Option ((List ByteArray)) :=
  some ([(⟨#[]⟩:ByteArray),(⟨#[110,101,119]⟩:ByteArray),(⟨#[117,112,100,97,116,101]⟩:ByteArray),(⟨#[99,97,110,99,101,108]⟩:ByteArray)]:List ByteArray)
def strings_Join (x0:(List ByteArray)) (x1:ByteArray):Option (ByteArray) :=
  NW x0 x1
def jR (e:Nat) (d:Int) (c:(List ByteArray)):Option (Ctl ((List ByteArray)) (Unit)) :=
  (strconv_Itoa d).bind λb=>(jE c ([b]:List ByteArray)).bind λa=>some (.go a)
def lH (a:(List Int)):Option (ByteArray) :=
  (forL a ([]:List ByteArray) (λk x s=>jR k x s)).bind λb=>thenC b (λd=>(strings_Join d (⟨#[32]⟩:ByteArray)).bind λc=>some c) (λ_=>none)
def iC (f:Nat) (e:ByteArray) (a:ByteArray):Option (Ctl (ByteArray) (Unit)) :=
  (fu (⟨#[114,101,102,32]⟩:ByteArray) e).bind λb=>(fu b (⟨#[10]⟩:ByteArray)).bind λc=>(fu a c).bind λd=>some (.go d)
def iB (g:Nat) (a:Rect) (c:ByteArray):Option (Ctl (ByteArray) (Unit)) :=
  (lH ([a.X,a.Y,a.W,a.H]:List Int)).bind λb=>(fu (⟨#[97,114,101,97,32]⟩:ByteArray) b).bind λd=>(fu d (⟨#[10]⟩:ByteArray)).bind λe=>(fu c e).bind λf=>some (.go f)
def iE (z:Nat) (a:Alert) (r:ByteArray):Option (Ctl (ByteArray) (Unit)) :=
  (fu (⟨#[97,108,101,114,116,32]⟩:ByteArray) a.Id).bind λg=>(fu g (⟨#[32]⟩:ByteArray)).bind λh=>(fu h a.Sender).bind λi=>(fu i (⟨#[32]⟩:ByteArray)).bind λj=>(oG).bind λe=>(idx e a.Kind).bind λy=>(fu j y).bind λl=>(fu l (⟨#[32]⟩:ByteArray)).bind λm=>(lH ([a.At,a.Until,a.Weight]:List Int)).bind λf=>(fu m f).bind λn=>(fu n (⟨#[10]⟩:ByteArray)).bind λo=>(fu r o).bind λp=>(forL a.Refs p (λk x s=>iC k x s)).bind λc=>thenC c (λq=>(forL a.Areas q (λk x s=>iB k x s)).bind λd=>thenC d (λb=>(bif (sNe a.Text (⟨#[]⟩:ByteArray))then (fu (⟨#[116,101,120,116,32]⟩:ByteArray) a.Text).bind λt=>(fu t (⟨#[10]⟩:ByteArray)).bind λu=>(fu b u).bind λv=>some v else some b).bind λw=>some (.go w)) (λ_=>none)) (λ_=>none)
def ji (a:(List Alert)):Option (ByteArray) :=
  (forL a (⟨#[]⟩:ByteArray) (λk x s=>iE k x s)).bind λb=>thenC b (λc=>some c) (λ_=>none)
def jL (a:Alert) (b:Alert):Option (Bool) :=
  (ji ([a]:List Alert)).bind λc=>(ji ([b]:List Alert)).bind λd=>some (sEq c d)
def aO (s2_2:(List Alert)) (a:Nat) (c:Alert) (e:Unit):Option (Ctl (Unit) (Bool)) :=
  (idx s2_2 (a:Int)).bind λd=>(jL c d).bind λb=>bif (!b)then some (.ret false)else some (.go ())
def aU (s1_1:(List Alert)) (s2_2:(List Alert)):Option (Bool) :=
  bif ((s1_1.length:Int) != (s2_2.length:Int))then some false else (forL s1_1 () (λk x s=>aO s2_2 k x s)).bind λa=>thenC a (λb=>some true) (λr=>some r)
def iy (g:Stream) (a:ByteArray) (d:ByteArray):Option (ByteArray×Stream) :=
  (bif (sEq a (⟨#[]⟩:ByteArray))then some true else some (sEq d (⟨#[]⟩:ByteArray))).bind λm=>bif m then some (d,g)else (eB g (a.size:Int)).bind λb=>(eB b.2 (d.size:Int)).bind λf=>(yV d f.1).bind λe=>(eB f.2 3).bind λc=>bif (c.1==0)then (rW a 0 b.1).bind λn=>(fu n (Utf8.encode (IntKind.i32.wrap (e.toNat:Int)))).bind λh=>(rW a (w64 (b.1+1)) a.size).bind λo=>(fu h o).bind λi=>some (i,c.2)else bif (c.1==1)then (rW a 0 b.1).bind λp=>(fu p (Utf8.encode (IntKind.i32.wrap (e.toNat:Int)))).bind λj=>(rW a b.1 a.size).bind λq=>(fu j q).bind λk=>some (k,c.2)else (rW a 0 b.1).bind λr=>(rW a (w64 (b.1+1)) a.size).bind λs=>(fu r s).bind λl=>some (l,c.2)
def fV (c:Nat) (d:Nat) (b:ByteArray×(List Int)×Int):Option (Ctl (ByteArray×(List Int)×Int) (Unit)) :=
  (iy (⟨b.2.1,b.2.2⟩:Stream) b.1 (⟨#[32,10,48,45,57,97,116,114]⟩:ByteArray)).bind λa=>some (.go (a.1,a.2.L,a.2.f_at))
noncomputable def iP (i:Stream):Option (ByteArray×Stream) :=
  (dU i 3).bind λf=>(ji f.1).bind λh=>(iw f.2 ([0,0,1,2]:List Int)).bind λd=>(forL (List.range (d.1).toNat) (h,d.2.L,d.2.f_at) (λk x s=>fV k x s)).bind λg=>thenC g (λb=>(jX (⟨b.2.1,b.2.2⟩:Stream) 12).bind λa=>(bif a.1 then (gp a.2 ([(⟨#[116,101,120,116,32,120,10]⟩:ByteArray),(⟨#[114,101,102,32,122,122,10]⟩:ByteArray),(⟨#[97,114,101,97,32,48,32,48,32,49,32,49,10]⟩:ByteArray),(⟨#[116,101,120,116,32,10]⟩:ByteArray),(⟨#[116,101,120,116,32,32,120,10]⟩:ByteArray)]:List ByteArray)).bind λc=>(fu b.1 c.1).bind λj=>some (j,c.2.L,c.2.f_at)else some (b.1,a.2.L,a.2.f_at)).bind λe=>some (e.1,(⟨e.2.1,e.2.2⟩:Stream))) (λ_=>none)
def l7 (c:Nat) (b:Rect) (d:Unit):Option (Ctl (Unit) (Int)) :=
  (gP b).bind λa=>bif (a != 0)then some (.ret a)else some (.go ())
def lF (a:(List Rect)):Option (Int) :=
  bif (decide ((a.length:Int)>2000))then some 2 else (forL a () (λk x s=>l7 k x s)).bind λb=>thenC b (λc=>some 0) (λr=>some r)
def gH (a:Int):Option Bool :=
  bif (decide (a<0))then none else bif (decide ((w64 (a-(w64 (0-0))))>0))then (zN (w64 (a-(w64 (0-0)))) 32).bind λ_=>some true else some false
def fI (c:Nat) (b:(List Rect)) (a:Int):Option (Ctl (Int) (Unit)) :=
  (bif (decide ((w64 (a+(b.length:Int)))<0))then none else some ()).bind λd=>some (.go (w64 (a+(b.length:Int))))
def fH (d:Nat) (c:(List Rect)) (b:(List Rect)):Option (Ctl ((List Rect)) (Unit)) :=
  (jE b c).bind λa=>some (.go a)
def eu (a:(List (List Rect))):Option ((List Rect)) :=
  (forL a 0 (λk x s=>fI k x s)).bind λb=>thenC b (λe=>(gH e).bind λf=>(forL a ([]:List Rect) (λk x s=>fH k x s)).bind λc=>thenC c (λd=>some d) (λ_=>none)) (λ_=>none)
def iT (x:(List Int)):Option ((List Int)) :=
  Ob x
def fE (c:(List Int)) (b:Int) (a:(List Int)×Int×Int):Option (Ctl ((List Int)×Int×Int) (Unit)) :=
  bif (decide (a.2.2<(((((c.length:Int)).toNat-(b).toNat):Nat):Int)))then (inN a.2.2 (((c.length:Int)).toNat-(b).toNat)).bind λ_=>(a.1[(((b).toNat)+(a.2.2).toNat)]?).bind λe=>(inN (w64 (a.2.2-1)) (((c.length:Int)).toNat-(b).toNat)).bind λ_=>(a.1[(((b).toNat)+((w64 (a.2.2-1))).toNat)]?).bind λf=>(bif (e != f)then (inN a.2.2 (((c.length:Int)).toNat-(b).toNat)).bind λ_=>(a.1[(((b).toNat)+(a.2.2).toNat)]?).bind λg=>(inR a.2.1 a.1).bind λ_=>(a.1[(0+(a.2.1).toNat)]?).bind λh=>some ((a.1.set (0+(a.2.1).toNat) g),(w64 (a.2.1+1)))else some (a.1,a.2.1)).bind λd=>some (.go (d.1,d.2,(w64 (a.2.2+1))))else some (.brk (a.1,a.2.1,a.2.2))
noncomputable def dM (b:(List Int)) (c:Int):Option (Ctl (Int) ((List Int))) :=
  bif (decide (c<(b.length:Int)))then (inR c b).bind λ_=>(b[(0+(c).toNat)]?).bind λd=>(inR (w64 (c-1)) b).bind λ_=>(b[(0+((w64 (c-1))).toNat)]?).bind λe=>bif (d==e)then (neL b).bind λ_=>(Dp b c (b.length:Int)).bind λ_=>(jH (b,c,1) (λs=>fE b c s)).bind λf=>thenC f (λa=>(Dp a.1 a.2.1 (a.1.length:Int)).bind λ_=>(Dp (a.1.take ((a.2.1).toNat)++List.replicate (((a.1.length:Int)).toNat-(a.2.1).toNat) 0++a.1.drop (((a.2.1).toNat)+(((a.1.length:Int)).toNat-(a.2.1).toNat))) 0 a.2.1).bind λ_=>some (.ret (cutL (a.1.take ((a.2.1).toNat)++List.replicate (((a.1.length:Int)).toNat-(a.2.1).toNat) 0++a.1.drop (((a.2.1).toNat)+(((a.1.length:Int)).toNat-(a.2.1).toNat))) 0 ((a.2.1).toNat)))) (λ_=>none)else some (.go (w64 (c+1)))else some (.brk c)
noncomputable def eZ (a:(List Int)):Option ((List Int)) :=
  bif (decide ((a.length:Int)<2))then some a else (jH 1 (λs=>dM a s)).bind λb=>thenC b (λc=>some a) (λr=>some r)
def uA (a:Run) (b:Run):Option (Int) :=
  some (w64 (a.f_from-b.f_from))
def bX (c:Int) (a:(List Run)×Int):Option (Ctl ((List Run)×Int) (Unit)) :=
  (bif (decide (a.2>c))then (inR a.2 a.1).bind λ_=>(a.1[(0+(a.2).toNat)]?).bind λd=>(inR (w64 (a.2-1)) a.1).bind λ_=>(a.1[(0+((w64 (a.2-1))).toNat)]?).bind λe=>(uA d e).bind λg=>some (decide (g<0))else some false).bind λh=>bif h then (inR (w64 (a.2-1)) a.1).bind λ_=>(a.1[(0+((w64 (a.2-1))).toNat)]?).bind λb=>(inR a.2 a.1).bind λ_=>(a.1[(0+(a.2).toNat)]?).bind λf=>(inR a.2 a.1).bind λ_=>(a.1[(0+(a.2).toNat)]?).bind λi=>(inR (w64 (a.2-1)) (a.1.set (0+(a.2).toNat) b)).bind λ_=>((a.1.set (0+(a.2).toNat) b)[(0+((w64 (a.2-1))).toNat)]?).bind λj=>some (.go (((a.1.set (0+(a.2).toNat) b).set (0+((w64 (a.2-1))).toNat) f),(w64 (a.2-1))))else some (.brk (a.1,a.2))
noncomputable def bE (c:Int) (b:Int) (a:(List Run)×Int):Option (Ctl ((List Run)×Int) (Unit)) :=
  bif (decide (a.2<c))then (jH (a.1,a.2) (λs=>bX b s)).bind λd=>thenC d (λe=>some (.go (e.1,(w64 (a.2+1))))) (λ_=>none)else some (.brk (a.1,a.2))
noncomputable def bJ (c:(List Run)) (a:Int) (b:Int):Option ((List Run)) :=
  (jH (c,(w64 (a+1))) (λs=>bE b a s)).bind λd=>thenC d (λe=>some e.1) (λ_=>none)
noncomputable def bW (b:Int) (a:Int) (c:(List Run)) (e:Int) (f:Unit):Option (Ctl (Unit) ((List Run))) :=
  bif (decide ((w64 (b-a))<=12))then (bJ c a b).bind λd=>(ni d c).bind λ_=>some (.ret d)else bif (e==0)then none else none
noncomputable def cO (a:(List Run)) (b:Int) (c:Int) (d:Int):Option ((List Run)) :=
  (jH () (λs=>bW c b a d s)).bind λe=>thenC e (λf=>some a) (λr=>some r)
noncomputable def bK (a:(List Run)):Option ((List Run)) :=
  (iV (IntKind.u64.wrap (a.length:Int))).bind λc=>(cO a 0 (a.length:Int) c).bind λb=>(ni b a).bind λ_=>some b
def oW (c:Int) (g:Nat) (a:Rect) (b:(List Run)):Option (Ctl ((List Run)) (Unit)) :=
  (bif (decide (a.Y<=c))then some (decide (c<(w64 (a.Y+a.H))))else some false).bind λe=>(bif e then (jE b ([(⟨a.X,(w64 (a.X+a.W))⟩:Run)]:List Run)).bind λd=>some d else some b).bind λf=>some (.go f)
def ow (i:Nat) (b:Run) (a:(List Run)):Option (Ctl ((List Run)) (Unit)) :=
  (bif (decide ((w64 ((a.length:Int)-1))>=0))then (inR (w64 ((a.length:Int)-1)) a).bind λ_=>(a[(0+((w64 ((a.length:Int)-1))).toNat)]?).bind λd=>some (decide (b.f_from<=d.f_to))else some false).bind λg=>(bif g then (inR (w64 ((a.length:Int)-1)) a).bind λ_=>(a[(0+((w64 ((a.length:Int)-1))).toNat)]?).bind λe=>(inR (w64 ((a.length:Int)-1)) a).bind λ_=>(a[(0+((w64 ((a.length:Int)-1))).toNat)]?).bind λf=>some (a.set (0+((w64 ((a.length:Int)-1))).toNat) (⟨f.f_from,(uQ e.f_to b.f_to)⟩:Run))else (jE a ([b]:List Run)).bind λc=>some c).bind λh=>some (.go h)
noncomputable def nW (c:(List Rect)) (g:Int):Option ((List Run)) :=
  (forL c ([]:List Run) (λk x s=>oW g k x s)).bind λd=>thenC d (λb=>(bK b).bind λa=>(ni a b).bind λ_=>(forL a ([]:List Run) (λk x s=>ow k x s)).bind λe=>thenC e (λf=>some f) (λ_=>none)) (λ_=>none)
def oq (b:(List Run)) (d:Run) (a:Int):Option (Ctl (Int) (Unit)) :=
  (bif (decide (a<(b.length:Int)))then (idx b a).bind λe=>some (decide (e.f_to<=d.f_from))else some false).bind λc=>bif c then some (.go (w64 (a+1)))else some (.brk a)
def oQ (b:(List Run)) (f:Run) (a:(List Run)×Int×Int):Option (Ctl ((List Run)×Int×Int) (Unit)) :=
  (bif (decide (a.2.1<(b.length:Int)))then (idx b a.2.1).bind λg=>some (decide (g.f_from<f.f_to))else some false).bind λd=>bif d then (idx b a.2.1).bind λh=>(bif (decide (h.f_from>a.2.2))then (idx b a.2.1).bind λi=>(jE a.1 ([(⟨a.2.2,i.f_from⟩:Run)]:List Run)).bind λc=>some c else some a.1).bind λe=>(idx b a.2.1).bind λj=>some (.go (e,(w64 (a.2.1+1)),(uQ a.2.2 j.f_to)))else some (.brk (a.1,a.2.1,a.2.2))
noncomputable def lW (c:(List Run)) (j:Nat) (a:Run) (e:(List Run)×Int):Option (Ctl ((List Run)×Int) (Unit)) :=
  (jH e.2 (λs=>oq c a s)).bind λg=>thenC g (λd=>(jH (e.1,d,a.f_from) (λs=>oQ c a s)).bind λh=>thenC h (λb=>(bif (decide (b.2.2<a.f_to))then (jE b.1 ([(⟨b.2.2,a.f_to⟩:Run)]:List Run)).bind λf=>some f else some b.1).bind λi=>some (.go (i,d))) (λ_=>none)) (λ_=>none)
noncomputable def qg (a:(List Run)) (b:(List Run)):Option ((List Run)) :=
  (forL a (([]:List Run),0) (λk x s=>lW b k x s)).bind λc=>thenC c (λd=>some d.1) (λ_=>none)
def eO (s2_2:(List Run)) (c:Nat) (a:Run) (d:Unit):Option (Ctl (Unit) (Bool)) :=
  (idx s2_2 (c:Int)).bind λb=>bif (!((a.f_from==b.f_from)&&((a.f_to==b.f_to)&&true)))then some (.ret false)else some (.go ())
def dL (s1_1:(List Run)) (s2_2:(List Run)):Option (Bool) :=
  bif ((s1_1.length:Int) != (s2_2.length:Int))then some false else (forL s1_1 () (λk x s=>eO s2_2 k x s)).bind λa=>thenC a (λb=>some true) (λr=>some r)
def mK (d:Nat) (a:Rect) (c:(List Int)):Option (Ctl ((List Int)) (Unit)) :=
  (jE c ([a.Y,(w64 (a.Y+a.H))]:List Int)).bind λb=>some (.go b)
def mE (b:(List Rect)×(List Run)×Int) (e:Int) (f:Nat) (a:Run) (d:(List Rect)):Option (Ctl ((List Rect)) (Unit)) :=
  (jE d ([(⟨a.f_from,b.2.2,(w64 (a.f_to-a.f_from)),(w64 (e-b.2.2))⟩:Rect)]:List Rect)).bind λc=>some (.go c)
noncomputable def jP (h:(List Int)) (e:(List Rect)) (f:(List Rect)) (d:Nat) (b:Int) (a:(List Rect)×(List Run)×Int):Option (Ctl ((List Rect)×(List Run)×Int) (Unit)) :=
  (bif (decide ((w64 ((d:Int)+1))<(h.length:Int)))then (nW e b).bind λi=>(nW f b).bind λj=>(qg i j).bind λl=>some l else some ([]:List Run)).bind λc=>(dL a.2.1 c).bind λm=>bif m then some (.go (a.1,a.2.1,a.2.2))else (forL a.2.1 a.1 (λk x s=>mE a b k x s)).bind λg=>thenC g (λn=>some (.go (n,c,b))) (λ_=>none)
noncomputable def nu (a:(List Rect)) (b:(List Rect)):Option ((List Rect)) :=
  (eu ([a,b]:List (List Rect))).bind λh=>(forL h ([]:List Int) (λk x s=>mK k x s)).bind λf=>thenC f (λe=>(iT e).bind λc=>(ni c e).bind λ_=>(eZ c).bind λd=>(forL d (([]:List Rect),([]:List Run),0) (λk x s=>jP d a b k x s)).bind λg=>thenC g (λi=>some i.1) (λ_=>none)) (λ_=>none)
def sU (c:Nat) (a:Rect) (b:Int):Option (Ctl (Int) (Unit)) :=
  some (.go (w64 (b+(w64 (a.W*a.H)))))
def tL (a:(List Rect)):Option (Int) :=
  (forL a 0 (λk x s=>sU k x s)).bind λb=>thenC b (λc=>some c) (λ_=>none)
noncomputable def qo (a:(List Rect)):Option (Int×Int) :=
  (lF a).bind λb=>bif (b != 0)then some (0,b)else (nu a ([]:List Rect)).bind λc=>(tL c).bind λd=>some (d,0)
def Ca (a:Int):Option (Bool) :=
  (bif (decide (a>=0))then some (decide (a<=4000))else some false).bind λb=>some b
def jY (c:(List Int)) (a:Nat) (b:Int) (g:Unit):Option (Ctl (Unit) (Int)) :=
  (Ca b).bind λd=>bif (!d)then some (.ret 1)else (bif (decide ((a:Int)>0))then (idx c (w64 ((a:Int)-1))).bind λf=>some (decide (b<=f))else some false).bind λe=>bif e then some (.ret 7)else some (.go ())
def jF (a:(List Int)):Option (Int) :=
  bif (decide ((a.length:Int)>100))then some 2 else (forL a () (λk x s=>jY a k x s)).bind λb=>thenC b (λc=>some 0) (λr=>some r)
noncomputable def jh (c:(List ByteArray)) (a:Nat) (b:ByteArray) (g:Unit):Option (Ctl (Unit) (Int)) :=
  (kit_IsKey b).bind λd=>bif (!d)then some (.ret 5)else (bif (decide ((a:Int)>0))then (idx c (w64 ((a:Int)-1))).bind λf=>some (sLe b f)else some false).bind λe=>bif e then some (.ret 7)else some (.go ())
noncomputable def jv (a:(List ByteArray)):Option (Int) :=
  (forL a () (λk x s=>jh a k x s)).bind λb=>thenC b (λc=>some 0) (λr=>some r)
noncomputable def jd (a:(List ByteArray)):Option (Int) :=
  bif (decide ((a.length:Int)>20))then some 2 else (jv a).bind λb=>some b
noncomputable def iL (a:Entry):Option (Int) :=
  ((kit_IsKey a.Key).bind λk=>bif (!k)then some true else (kit_IsKey a.Item).bind λl=>some (!l)).bind λo=>bif o then some 5 else ((aQ a.Version 0 1000000).bind λc=>bif c then some true else (aQ a.First 0 a.Last).bind λd=>bif d then some true else bif (decide (a.Last>4000))then some true else (aQ a.Every 1 400).bind λe=>bif e then some true else (aQ a.Days 1 127).bind λf=>some f).bind λm=>bif m then some 1 else (jF a.Except).bind λb=>bif (b != 0)then some b else ((aQ a.From 0 1439).bind λg=>bif g then some true else (aQ a.To 0 1439).bind λh=>bif h then some true else (aQ a.Prio 0 9).bind λi=>some i).bind λn=>bif n then some 1 else (jd a.Tags).bind λj=>some j
noncomputable def fB (d:(List Entry)) (a:Nat) (c:Entry) (g:Unit):Option (Ctl (Unit) (Int)) :=
  (iL c).bind λb=>bif (b != 0)then some (.ret b)else (bif (decide ((a:Int)>0))then (idx d (w64 ((a:Int)-1))).bind λf=>some (sLe c.Key f.Key)else some false).bind λe=>bif e then some (.ret 7)else some (.go ())
noncomputable def gL (a:(List Entry)):Option (Int) :=
  bif (decide ((a.length:Int)>200))then some 2 else (forL a () (λk x s=>fB a k x s)).bind λb=>thenC b (λc=>some 0) (λr=>some r)
def jG (a:Window):Option (Int) :=
  ((aQ a.From 0 a.To).bind λb=>bif b then some true else some (decide (a.To>345686400000))).bind λc=>bif c then some 1 else bif (decide ((w64 (a.To-a.From))>34560000000))then some 2 else some 0
def cmp_Less_int (a:Int) (b:Int):Option (Bool) :=
  ((cmp_isNaN_int a).bind λc=>bif c then (cmp_isNaN_int b).bind λd=>bif (!d)then some true else some (decide (a<b))else some (decide (a<b))).bind λe=>some e
def iZ (a:Int):Option (Bool) :=
  some (a != a)
def eP (e:(List Int)) (d:Int) (a:Int×Int):Option (Ctl (Int×Int) (Unit)) :=
  bif (decide (a.1<a.2))then (O3 .u64 (IntKind.u64.wrap (w64 (a.1+a.2))) 1).bind λb=>(idx e (w64 b)).bind λf=>(cmp_Less_int f d).bind λc=>bif c then some (.go ((w64 ((w64 b)+1)),a.2))else some (.go (a.1,(w64 b)))else some (.brk (a.1,a.2))
noncomputable def dX (a:(List Int)) (c:Int):Option (Int×Bool) :=
  (jH (0,(a.length:Int)) (λs=>eP a c s)).bind λd=>thenC d (λb=>(bif (decide (b.1<(a.length:Int)))then (idx a b.1).bind λh=>bif (h==c)then some true else (idx a b.1).bind λi=>(iZ i).bind λe=>bif e then (iZ c).bind λf=>some f else some false else some false).bind λg=>some (b.1,g)) (λ_=>none)
noncomputable def l5 (a:Entry) (b:Int):Option (Bool) :=
  ((aQ b a.First a.Last).bind λf=>bif f then some true else (KN .i64 (w64 (b-a.First)) a.Every).bind λd=>bif (d != 0)then some true else (shlO .i64 1 (b.tmod 7)).bind λc=>some ((PK .i64 a.Days c)==0)).bind λg=>bif g then some false else (dX a.Except b).bind λe=>some (!e.2)
def nG (a:Entry) (c:Int) (b:Int):Option (Window) :=
  (bif (decide ((w64 (a.To-a.From))<=0))then some (w64 ((w64 (a.To-a.From))+1440))else some (w64 (a.To-a.From))).bind λd=>some (⟨(w64 ((w64 ((w64 ((w64 (b*1440))+a.From))-c))*60000)),(w64 ((w64 ((w64 ((w64 ((w64 (b*1440))+a.From))-c))*60000))+(w64 (d*60000))))⟩:Window)
noncomputable def jD (d:Window) (e:Int) (b:Entry) (a:(List Window)×Int):Option (Ctl ((List Window)×Int) (Unit)) :=
  bif (decide (a.2<=(JL (w64 ((w64 ((w64 (d.To+(w64 (e*60000)))).tdiv 86400000))+1)) b.Last)))then (l5 b a.2).bind λg=>bif (!g)then some (.go (a.1,(w64 (a.2+1))))else (nG b e a.2).bind λc=>(bif (decide (c.From<d.To))then some (decide (c.To>d.From))else some false).bind λh=>(bif h then (jE a.1 ([c]:List Window)).bind λf=>some f else some a.1).bind λi=>some (.go (i,(w64 (a.2+1))))else some (.brk (a.1,a.2))
noncomputable def l8 (b:Entry) (c:Int) (a:Window):Option ((List Window)) :=
  (bif b.Gone then some true else some (decide (a.From>=a.To))).bind λf=>bif f then some ([]:(List Window))else (jH (([]:List Window),(uQ (w64 ((w64 ((w64 (a.From+(w64 (c*60000)))).tdiv 86400000))-2)) b.First)) (λs=>jD a c b s)).bind λd=>thenC d (λe=>some e.1) (λ_=>none)
def vY (a:Window) (b:Window):Option (Window) :=
  some (⟨(uQ a.From b.From),(JL a.To b.To)⟩:Window)
def lq (e:Window) (a:Nat) (g:Nat) (b:(List Window)):Option (Ctl ((List Window)) (Unit)) :=
  (inR (a:Int) b).bind λ_=>(b[(0+((a:Int)).toNat)]?).bind λc=>(vY c e).bind λd=>(inR (a:Int) b).bind λ_=>(b[(0+((a:Int)).toNat)]?).bind λf=>some (.go (b.set (0+((a:Int)).toNat) d))
noncomputable def lI (b:Entry) (f:Int) (a:Window):Option ((List Window)×Int) :=
  (gL ([b]:List Entry)).bind λe=>bif (e != 0)then some (([]:(List Window)),e)else (aQ f (-1440) 1440).bind λh=>bif h then some (([]:(List Window)),1)else (jG a).bind λc=>bif (c != 0)then some (([]:(List Window)),c)else (l8 b f a).bind λd=>(forL (List.range ((d.length:Int)).toNat) d (λk x s=>lq a k x s)).bind λg=>thenC g (λi=>some (i,0)) (λ_=>none)
def o5 (a:Window):Option (Bool) :=
  (bif (decide (a.From>=0))then bif (decide (a.From<a.To))then some (decide (a.To<=345686400000))else some false else some false).bind λb=>some b
noncomputable def jI (a:(List ByteArray)):Option (Int) :=
  bif (decide ((a.length:Int)>20))then some 2 else (jv a).bind λb=>some b
noncomputable def eY (d:(List Campaign)) (b:Nat) (a:Campaign) (o:Unit):Option (Ctl (Unit) (Int)) :=
  ((kit_IsKey a.Key).bind λe=>bif (!e)then some true else bif (sNe a.Class (⟨#[]⟩:ByteArray))then (kit_IsKey a.Class).bind λf=>some (!f)else some false).bind λk=>bif k then some (.ret 5)else (bif (decide ((b:Int)>0))then (idx d (w64 ((b:Int)-1))).bind λn=>some (sLe a.Key n.Key)else some false).bind λl=>bif l then some (.ret 7)else ((o5 a.Time).bind λg=>bif (!g)then some true else (aQ a.Goal 0 1000000).bind λh=>bif h then some true else (aQ a.Most 0 1000000).bind λi=>bif i then some true else (aQ a.Cents 0 1000000000).bind λj=>some j).bind λm=>bif m then some (.ret 1)else (jI a.Tags).bind λc=>bif (c != 0)then some (.ret c)else some (.go ())
noncomputable def fQ (a:(List Campaign)):Option (Int) :=
  bif (decide ((a.length:Int)>30))then some 2 else (forL a () (λk x s=>eY a k x s)).bind λb=>thenC b (λc=>some 0) (λr=>some r)
def tJ (a:Campaign) (b:Int):Option (Int) :=
  bif (decide (b<a.Time.From))then some 0 else bif (decide (b>=a.Time.To))then some a.Goal else (MP .i64 (w64 (a.Goal*(w64 (b-a.Time.From)))) (w64 (a.Time.To-a.Time.From))).bind λc=>some c
noncomputable def qi (b:Campaign) (a:Int):Option (Int×Int) :=
  (fQ ([b]:List Campaign)).bind λc=>bif (c != 0)then some (0,c)else (cZ a).bind λe=>bif (!e)then some (0,1)else (tJ b a).bind λd=>some (d,0)
def kw (a:Beat) (b:Beat):Option (Int) :=
  (strings_Compare a.Player b.Player).bind λc=>(cmp_Compare_int a.At b.At).bind λd=>(pU ([c,d]:List Int)).bind λe=>some e
noncomputable def iO (c:(List Beat)) (b:Nat) (a:Beat) (n:Unit):Option (Ctl (Unit) (Int)) :=
  (kit_IsKey a.Player).bind λd=>bif (!d)then some (.ret 5)else ((cZ a.At).bind λe=>bif (!e)then some true else (aQ a.Clock 0 345686399999).bind λf=>some f).bind λh=>bif h then some (.ret 1)else (bif (decide ((b:Int)>0))then (idx c (w64 ((b:Int)-1))).bind λk=>(kw k a).bind λg=>some (decide (g>=0))else some false).bind λi=>bif i then some (.ret 7)else (bif (decide ((b:Int)>0))then (idx c (w64 ((b:Int)-1))).bind λl=>bif (sEq a.Player l.Player)then (idx c (w64 ((b:Int)-1))).bind λm=>some (decide (a.Clock<=m.Clock))else some false else some false).bind λj=>bif j then some (.ret 16)else some (.go ())
noncomputable def jO (a:(List Beat)):Option (Int) :=
  bif (decide ((a.length:Int)>500))then some 2 else (forL a () (λk x s=>iO a k x s)).bind λb=>thenC b (λc=>some 0) (λr=>some r)
def pO (f:ByteArray) (e:Bool) (h:Nat) (a:Beat) (b:(List Beat_)):Option (Ctl ((List Beat_)) (Unit)) :=
  (bif (sNe a.Player f)then some b else bif e then (jE b ([(⟨a.At,a.Clock⟩:Beat_)]:List Beat_)).bind λc=>some c else (jE b ([(⟨a.Clock,a.At⟩:Beat_)]:List Beat_)).bind λd=>some d).bind λg=>some (.go g)
def p9 (b:(List Beat)) (d:ByteArray) (a:Bool):Option ((List Beat_)) :=
  (forL b ([]:List Beat_) (λk x s=>pO d a k x s)).bind λc=>thenC c (λe=>some e) (λ_=>none)
def nE (b:(List Beat_)) (c:Int) (a:Int):Option (Ctl (Int) (Unit)) :=
  (bif (decide (a<(b.length:Int)))then (idx b a).bind λe=>some (decide (e.f_from<=c))else some false).bind λd=>bif d then some (.go (w64 (a+1)))else some (.brk a)
noncomputable def oO (a:(List Beat_)) (c:Int):Option (Int×Int) :=
  bif ((a.length:Int)==0)then some (0,8)else (jH 0 (λs=>nE a c s)).bind λk=>thenC k (λd=>bif (d==0)then (idx a 0).bind λg=>(idx a 0).bind λh=>(cZ (w64 (g.f_to-(w64 (h.f_from-c))))).bind λl=>bif (!l)then some (0,11)else some ((w64 (g.f_to-(w64 (h.f_from-c)))),0)else bif (d==(a.length:Int))then (idx a (w64 (d-1))).bind λi=>(idx a (w64 (d-1))).bind λj=>(cZ (w64 ((w64 (i.f_to+c))-j.f_from))).bind λm=>bif (!m)then some (0,11)else some ((w64 ((w64 (i.f_to+c))-j.f_from)),0)else (idx a (w64 (d-1))).bind λb=>(idx a d).bind λe=>(bif (decide ((w64 (e.f_from-b.f_from))>2592000000))then some true else some (decide ((w64 (e.f_to-b.f_to))>2592000000))).bind λo=>bif o then some (0,2)else (MP .i64 (w64 ((w64 (c-b.f_from))*(w64 (e.f_to-b.f_to)))) (w64 (e.f_from-b.f_from))).bind λf=>(cZ (w64 (b.f_to+f))).bind λn=>bif (!n)then some (0,11)else some ((w64 (b.f_to+f)),0)) (λ_=>none)
noncomputable def qm (a:(List Beat)) (c:ByteArray) (b:Int) (f:Bool):Option (Int×Int) :=
  (jO a).bind λe=>bif (e != 0)then some (0,e)else (kit_IsKey c).bind λi=>bif (!i)then some (0,5)else (cZ b).bind λg=>bif (!g)then some (0,1)else (p9 a c f).bind λh=>(oO h b).bind λd=>some (d.1,d.2)
noncomputable def qd (c:(List Beat)) (d:ByteArray) (b:Int):Option (Int×Int) :=
  (qm c d b false).bind λa=>some (a.1,a.2)
noncomputable def iQ (c:(List Post)) (b:Nat) (a:Post) (j:Unit):Option (Ctl (Unit) (Int)) :=
  (kit_IsKey a.Player).bind λd=>bif (!d)then some (.ret 5)else ((aQ a.X (-100000) 100000).bind λe=>bif e then some true else (aQ a.Y (-100000) 100000).bind λf=>some f).bind λg=>bif g then some (.ret 1)else (bif (decide ((b:Int)>0))then (idx c (w64 ((b:Int)-1))).bind λi=>some (sLe a.Player i.Player)else some false).bind λh=>bif h then some (.ret 7)else some (.go ())
noncomputable def jW (a:(List Post)):Option (Int) :=
  bif (decide ((a.length:Int)>500))then some 2 else (forL a () (λk x s=>iQ a k x s)).bind λb=>thenC b (λc=>some 0) (λr=>some r)
noncomputable def kI (b:(List Alert)) (c:(List Post)):Option (Int) :=
  (bO b).bind λa=>bif (a != 0)then some a else (jW c).bind λd=>some d
def qK (a:Rect) (b:Post):Option (Bool) :=
  (bif (decide (a.X<=b.X))then bif (decide (b.X<(w64 (a.X+a.W))))then bif (decide (a.Y<=b.Y))then some (decide (b.Y<(w64 (a.Y+a.H))))else some false else some false else some false).bind λc=>some c
def eH (a:Rect->Option Bool) (b:Nat) (d:Rect) (e:Unit):Option (Ctl (Unit) (Int)) :=
  (a d).bind λc=>bif c then some (.ret (b:Int))else some (.go ())
def fM (c:(List Rect)) (a:Rect->Option Bool):Option (Int) :=
  (forL c () (λk x s=>eH a k x s)).bind λb=>thenC b (λd=>some (-1)) (λr=>some r)
def eU (c:(List Rect)) (a:Rect->Option Bool):Option (Bool) :=
  (fM c a).bind λb=>some (decide (b>=0))
def pY (a:Alert) (b:Post):Option (Bool) :=
  (eU a.Areas (λx0=>qK x0 b)).bind λc=>some c
noncomputable def ny (a:Alert) (b:Post):Option (Bool×Int) :=
  (kI ([a]:List Alert) ([b]:List Post)).bind λc=>bif (c != 0)then some (false,c)else (pY a b).bind λd=>some (d,0)
def vW (b:Nat) (a:Int) (c:Unit):Option (Ctl (Unit) (Int)) :=
  bif (a != 0)then some (.ret a)else some (.go ())
def yx (a:(List Int)):Option (Int) :=
  (forL a () (λk x s=>vW k x s)).bind λb=>thenC b (λc=>some 0) (λr=>some r)
noncomputable def nH  : Option (Bool) :=
  (qo ([(⟨0,0,2,2⟩:Rect),(⟨1,1,2,2⟩:Rect)]:List Rect)).bind λa=>(lI (⟨(⟨#[97]⟩:ByteArray),(⟨#[98]⟩:ByteArray),0,0,0,1,127,([]:List Int),1,2,0,([]:List ByteArray),false⟩:Entry) 0 (⟨0,86400000⟩:Window)).bind λc=>(qi (⟨(⟨#[97]⟩:ByteArray),(⟨#[]⟩:ByteArray),(⟨0,100⟩:Window),([]:List ByteArray),10,0,0⟩:Campaign) 50).bind λd=>(qd ([(⟨(⟨#[112]⟩:ByteArray),0,100⟩:Beat),(⟨(⟨#[112]⟩:ByteArray),1000,1300⟩:Beat)]:List Beat) (⟨#[112]⟩:ByteArray) 700).bind λe=>(ny (⟨(⟨#[97]⟩:ByteArray),(⟨#[115]⟩:ByteArray),1,([]:List ByteArray),0,5,1,([(⟨0,0,2,2⟩:Rect)]:List Rect),(⟨#[120]⟩:ByteArray)⟩:Alert) (⟨(⟨#[112]⟩:ByteArray),1,1⟩:Post)).bind λb=>((yx ([a.2,c.2,d.2,e.2,b.2]:List Int)).bind λf=>bif (f==0)then bif (a.1==7)then bif ((c.1.length:Int)==1)then bif (d.1==5)then bif (e.1==500)then some b.1 else some false else some false else some false else some false else some false).bind λg=>some g
noncomputable def jN (g:(List Int)):Option (Bool) :=
  (dU (⟨g,0⟩:Stream) 5).bind λa=>(nI a.1).bind λe=>(lK e.1).bind λf=>(bif (e.2 != 0)then some true else bif (f.2.2 != 0)then some true else (aU a.1 f.1).bind λh=>some (!h)).bind λk=>bif k then some false else (iP a.2).bind λb=>(lK b.1).bind λc=>bif (c.2.2==0)then (nI c.1).bind λd=>(bif (d.2==0)then bif (sEq d.1 b.1)then (nH).bind λi=>some i else some false else some false).bind λl=>some l else (nH).bind λj=>some j
end Go.Proofs.YtljhfffghjclfabGreatDoor.Law

