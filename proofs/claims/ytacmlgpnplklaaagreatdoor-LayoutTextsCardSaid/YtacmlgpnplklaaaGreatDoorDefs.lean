/-
  The functions of the program, as plain functions over data (written by a program of ours).
-/
import Derived.Test.YtacmlgpnplklaaaGreatDoorEng5
open Go Go.Eng
namespace Go.Proofs.YtacmlgpnplklaaaGreatDoor.Law
set_option maxRecDepth 100000
set_option linter.unusedVariables false
set_option maxHeartbeats 1000000
structure Stream where
  L:(List Int)
  f_at:Int
def Stream.enc (s:Stream):List D:=[dl eI s.L,.int .i64 s.f_at]

structure Rect where
  X:Int
  Y:Int
  W:Int
  H:Int
def Rect.enc (s:Rect):List D:=[.int .i64 s.X,.int .i64 s.Y,.int .i64 s.W,.int .i64 s.H]
abbrev Rect.v (s:Rect):List V:=[(vI s.X),(vI s.Y),(vI s.W),(vI s.H)]

structure Zone where
  Key:ByteArray
  On:Rect
  Order:Int
def Zone.enc (s:Zone):List D:=[.str s.Key,.int .i64 s.On.X,.int .i64 s.On.Y,.int .i64 s.On.W,.int .i64 s.On.H,.int .i64 s.Order]
abbrev Zone.v (s:Zone):List V:=[(vS s.Key),(vI s.On.X),(vI s.On.Y),(vI s.On.W),(vI s.On.H),(vI s.Order)]

structure Layout where
  Key:ByteArray
  W:Int
  H:Int
  Zones:(List Zone)
def Layout.enc (s:Layout):List D:=[.str s.Key,.int .i64 s.W,.int .i64 s.H,dl Zone.enc s.Zones]
abbrev Layout.v (s:Layout):List V:=[(vS s.Key),(vI s.W),(vI s.H),(vL Zone.enc s.Zones)]

structure Run where
  f_from:Int
  f_to:Int
def Run.enc (s:Run):List D:=[.int .i64 s.f_from,.int .i64 s.f_to]

def nR (x_1:Int) (n_2:Int):Option (Int) :=
  bif (decide (n_2<1))then some 0 else (Gb .i64 x_1 n_2).bind λq_4=>(bif (decide (q_4<0))then some (w64 (q_4+n_2))else some q_4).bind λv_6=>some v_6
def bZ (s_1:Stream) (n_2:Int):Option (Int×Stream) :=
  bif ((s_1.L.length:Int)==0)then (nR (w64 ((w64 (s_1.f_at+1))*7919)) n_2).bind λr_4=>some (r_4,(⟨s_1.L,(w64 (s_1.f_at+1))⟩:Stream))else (Gb .i64 (w64 ((w64 (s_1.f_at+1))-1)) (s_1.L.length:Int)).bind λq_6=>(quoO .i64 (w64 ((w64 (s_1.f_at+1))-1)) (s_1.L.length:Int)).bind λq_8=>(idx s_1.L q_6).bind λy_10=>(nR y_10 1073741824).bind λr_12=>(nR (w64 (r_12+(w64 (q_8*(w64 (7919+q_6)))))) n_2).bind λr_14=>some (r_14,(⟨s_1.L,(w64 (s_1.f_at+1))⟩:Stream))
def dJ (s_1:Stream) (l_2:(List Int)):Option (Int×Stream) :=
  (bZ s_1 (l_2.length:Int)).bind λr_3=>(idx l_2 r_3.1).bind λy_6=>some (y_6,r_3.2)
def eZ (s_1:Stream) (n_2:Int):Option (Bool×Stream) :=
  (bZ s_1 n_2).bind λr_3=>some ((r_3.1==0),r_3.2)
def bI (s_1:Stream) (low_2:Int) (high_3:Int):Option (Int×Stream) :=
  bif (decide (high_3<low_2))then some (low_2,s_1)else (bZ s_1 (w64 ((w64 (high_3-low_2))+1))).bind λr_5=>some ((w64 (low_2+r_5.1)),r_5.2)
def bM (r_3:Int×Stream) (r_6:Int×Stream) (k_10:Nat) (x_12:ByteArray) (s_15:(List Zone)×(List Int)×Int):Option (Ctl ((List Zone)×(List Int)×Int) (Unit)) :=
  (eZ (⟨s_15.2.1,s_15.2.2⟩:Stream) 5).bind λr_23=>bif r_23.1 then some (.go (s_15.1,r_23.2.L,r_23.2.f_at))else (bI r_23.2 0 (w64 (r_3.1-1))).bind λr_27=>(bI r_27.2 0 (w64 (r_6.1-1))).bind λr_30=>(dJ r_30.2 ([0,0,1,2]:List Int)).bind λr_33=>(bI r_33.2 1 (w64 (r_3.1-r_27.1))).bind λr_37=>(bI r_37.2 1 (w64 (r_6.1-r_30.1))).bind λr_40=>(kY s_15.1 ([(⟨x_12,(⟨r_27.1,r_30.1,r_37.1,r_40.1⟩:Rect),r_33.1⟩:Zone)]:List Zone)).bind λa_43=>some (.go (a_43,r_40.2.L,r_40.2.f_at))
def bQ (s_1:Stream):Option (Layout×Stream) :=
  (dJ s_1 ([5,8,10,16]:List Int)).bind λr_3=>(dJ r_3.2 ([4,6,9]:List Int)).bind λr_6=>(forL ([(⟨#[122,97]⟩:ByteArray),(⟨#[122,98]⟩:ByteArray),(⟨#[122,99]⟩:ByteArray),(⟨#[122,100]⟩:ByteArray)]:List ByteArray) (([]:List Zone),r_6.2.L,r_6.2.f_at) (λk x s=>bM r_3 r_6 k x s)).bind λo_21=>thenC o_21 (λs_15=>some ((⟨(⟨#[108]⟩:ByteArray),r_3.1,r_6.1,s_15.1⟩:Layout),(⟨s_15.2.1,s_15.2.2⟩:Stream))) (λ_=>none)
def iH (s_1:Stream) (l_2:(List ByteArray)):Option (ByteArray×Stream) :=
  (bZ s_1 (l_2.length:Int)).bind λr_3=>(idx l_2 r_3.1).bind λy_6=>some (y_6,r_3.2)
def eU (s_1:Stream) (low_2:Int) (high_3:Int):Option (Int×Stream) :=
  (eZ s_1 12).bind λr_4=>bif r_4.1 then (dJ r_4.2 ([(w64 (low_2-1)),(w64 (high_3+1)),low_2,high_3,(-1099511627776),1099511627776]:List Int)).bind λr_8=>some (r_8.1,r_8.2)else (bI r_4.2 low_2 high_3).bind λr_11=>some (r_11.1,r_11.2)
def cz (s_1:(List Zone)):Option ((List Zone)) :=
  (kY [] s_1).bind λa_4=>some a_4
def fG (s_1:Stream):Option (Rect×Stream) :=
  (bI s_1 (-2) 8).bind λr_3=>(bI r_3.2 (-2) 8).bind λr_6=>(bI r_6.2 1 5).bind λr_9=>(bI r_9.2 1 5).bind λr_12=>some ((⟨r_3.1,r_6.1,r_9.1,r_12.1⟩:Rect),r_12.2)
def jg (s_1:Stream):Option (Rect×Stream) :=
  (fG s_1).bind λr_3=>(eZ r_3.2 20).bind λr_7=>(bif r_7.1 then (bZ r_7.2 3).bind λr_13=>bif (r_13.1==0)then (eU r_13.2 (-100000) 99999).bind λr_17=>some (r_17.2.L,r_17.2.f_at,r_17.1,r_3.1.Y,r_3.1.W,r_3.1.H)else bif (r_13.1==1)then (eU r_13.2 1 200000).bind λr_21=>(eU r_21.2 1 5).bind λr_24=>some (r_24.2.L,r_24.2.f_at,r_3.1.X,r_3.1.Y,r_21.1,r_24.1)else (dJ r_13.2 ([(-100000),99999]:List Int)).bind λr_27=>(dJ r_27.2 ([1,2,200000]:List Int)).bind λr_30=>some (r_30.2.L,r_30.2.f_at,r_3.1.X,r_27.1,r_3.1.W,r_30.1)else some (r_7.2.L,r_7.2.f_at,r_3.1.X,r_3.1.Y,r_3.1.W,r_3.1.H)).bind λv_10=>some ((⟨v_10.2.2.1,v_10.2.2.2.1,v_10.2.2.2.2.1,v_10.2.2.2.2.2⟩:Rect),(⟨v_10.1,v_10.2.1⟩:Stream))
def ik (s_1:Stream):Option (Layout×Stream) :=
  (bQ s_1).bind λr_3=>(eZ r_3.2 10).bind λr_7=>(bif r_7.1 then (bZ r_7.2 3).bind λr_15=>bif (r_15.1==0)then (iH r_15.2 ([(⟨#[]⟩:ByteArray),(⟨#[65]⟩:ByteArray)]:List ByteArray)).bind λr_19=>some (r_19.2.L,r_19.2.f_at,r_19.1,r_3.1.H,r_3.1.Zones)else bif (r_15.1==1)then (eU r_15.2 1 10).bind λr_23=>some (r_23.2.L,r_23.2.f_at,r_3.1.Key,r_23.1,r_3.1.Zones)else (cz r_3.1.Zones).bind λr_26=>(iH r_15.2 ([(⟨#[]⟩:ByteArray),(⟨#[122,97]⟩:ByteArray),(⟨#[122,122]⟩:ByteArray)]:List ByteArray)).bind λr_30=>(jg r_30.2).bind λr_33=>(eU r_33.2 0 1000).bind λr_36=>(kY r_26 ([(⟨r_30.1,r_33.1,r_36.1⟩:Zone)]:List Zone)).bind λa_39=>some (r_36.2.L,r_36.2.f_at,r_3.1.Key,r_3.1.H,a_39)else some (r_7.2.L,r_7.2.f_at,r_3.1.Key,r_3.1.H,r_3.1.Zones)).bind λv_12=>some ((⟨v_12.2.2.1,r_3.1.W,v_12.2.2.2.1,v_12.2.2.2.2⟩:Layout),(⟨v_12.1,v_12.2.1⟩:Stream))
def strconv_Itoa (x0:Int):Option (ByteArray) :=
  FK x0
def strings_Join (x0:(List ByteArray)) (x1:ByteArray):Option (ByteArray) :=
  FM x0 x1
def iB (k_2:Nat) (x_4:Int) (s_7:(List ByteArray)):Option (Ctl ((List ByteArray)) (Unit)) :=
  (strconv_Itoa x_4).bind λr_15=>(kY s_7 ([r_15]:List ByteArray)).bind λa_17=>some (.go a_17)
def ku (l_1:(List Int)):Option (ByteArray) :=
  (forL l_1 ([]:List ByteArray) (λk x s=>iB k x s)).bind λo_13=>thenC o_13 (λs_7=>(strings_Join s_7 (⟨#[32]⟩:ByteArray)).bind λr_20=>some r_20) (λ_=>none)
def eO (k_13:Nat) (x_15:Zone) (s_18:ByteArray):Option (Ctl (ByteArray) (Unit)) :=
  (kS (⟨#[122,111,110,101,32]⟩:ByteArray) x_15.Key).bind λs_24=>(kS s_24 (⟨#[32]⟩:ByteArray)).bind λs_26=>(ku ([x_15.On.X,x_15.On.Y,x_15.On.W,x_15.On.H,x_15.Order]:List Int)).bind λr_28=>(kS s_26 r_28).bind λs_30=>(kS s_30 (⟨#[10]⟩:ByteArray)).bind λs_32=>(kS s_18 s_32).bind λs_34=>some (.go s_34)
def fF (l_1:Layout):Option (ByteArray) :=
  (kS (⟨#[108,97,121,111,117,116,32]⟩:ByteArray) l_1.Key).bind λs_3=>(kS s_3 (⟨#[32]⟩:ByteArray)).bind λs_5=>(ku ([l_1.W,l_1.H]:List Int)).bind λr_7=>(kS s_5 r_7).bind λs_9=>(kS s_9 (⟨#[10]⟩:ByteArray)).bind λs_11=>(forL l_1.Zones s_11 (λk x s=>eO k x s)).bind λo_21=>thenC o_21 (λs_18=>some s_18) (λ_=>none)
def fC (s_1:Stream) (t_2:ByteArray) (withv_3:ByteArray):Option (ByteArray×Stream) :=
  (bif (sEq t_2 (⟨#[]⟩:ByteArray))then some true else some (sEq withv_3 (⟨#[]⟩:ByteArray))).bind λv_4=>bif v_4 then some (withv_3,s_1)else (bZ s_1 (t_2.size:Int)).bind λr_8=>(bZ r_8.2 (withv_3.size:Int)).bind λr_11=>(sQ withv_3 r_11.1).bind λb_14=>(bZ r_11.2 3).bind λr_16=>bif (r_16.1==0)then (lc t_2 0 r_8.1).bind λy_20=>(kS y_20 (Utf8.encode (IntKind.i32.wrap (b_14.toNat:Int)))).bind λs_22=>(lc t_2 (w64 (r_8.1+1)) t_2.size).bind λy_24=>(kS s_22 y_24).bind λs_26=>some (s_26,r_16.2)else bif (r_16.1==1)then (lc t_2 0 r_8.1).bind λy_29=>(kS y_29 (Utf8.encode (IntKind.i32.wrap (b_14.toNat:Int)))).bind λs_31=>(lc t_2 r_8.1 t_2.size).bind λy_33=>(kS s_31 y_33).bind λs_35=>some (s_35,r_16.2)else (lc t_2 0 r_8.1).bind λy_37=>(lc t_2 (w64 (r_8.1+1)) t_2.size).bind λy_39=>(kS y_37 y_39).bind λs_41=>some (s_41,r_16.2)
def dY (k_10:Nat) (x_12:Nat) (s_15:ByteArray×(List Int)×Int):Option (Ctl (ByteArray×(List Int)×Int) (Unit)) :=
  (fC (⟨s_15.2.1,s_15.2.2⟩:Stream) s_15.1 (⟨#[32,10,48,45,57,122,108]⟩:ByteArray)).bind λr_20=>some (.go (r_20.1,r_20.2.L,r_20.2.f_at))
def fo (s_1:Stream):Option (ByteArray×Stream) :=
  (bQ s_1).bind λr_2=>(fF r_2.1).bind λr_5=>(dJ r_2.2 ([0,0,1,2]:List Int)).bind λr_7=>(forL (List.range (r_7.1).toNat) (r_5,r_7.2.L,r_7.2.f_at) (λk x s=>dY k x s)).bind λo_18=>thenC o_18 (λs_15=>some (s_15.1,(⟨s_15.2.1,s_15.2.2⟩:Stream))) (λ_=>none)
def iO (s_1:ByteArray) (s_7:Int):Option (Ctl (Int) (Bool)) :=
  bif (decide (s_7<(s_1.size:Int)))then (sQ s_1 s_7).bind λb_13=>(bif (decide ((b_13.toNat:Int)>=97))then bif (decide ((b_13.toNat:Int)<=122))then some false else bif (decide (s_7>0))then bif (decide ((b_13.toNat:Int)>=48))then bif (decide ((b_13.toNat:Int)<=57))then some false else bif ((b_13.toNat:Int)==45)then some false else some (!((b_13.toNat:Int)==95))else bif ((b_13.toNat:Int)==45)then some false else some (!((b_13.toNat:Int)==95))else some true else bif (decide (s_7>0))then bif (decide ((b_13.toNat:Int)>=48))then bif (decide ((b_13.toNat:Int)<=57))then some false else bif ((b_13.toNat:Int)==45)then some false else some (!((b_13.toNat:Int)==95))else bif ((b_13.toNat:Int)==45)then some false else some (!((b_13.toNat:Int)==95))else some true).bind λv_15=>bif v_15 then some (.ret false)else some (.go (w64 (s_7+1)))else some (.brk s_7)
noncomputable def ni (s_1:ByteArray):Option (Bool) :=
  (lV 0 (λs=>iO s_1 s)).bind λo_10=>thenC o_10 (λs_7=>(bif (sNe s_1 (⟨#[]⟩:ByteArray))then some (decide ((s_1.size:Int)<=40))else some false).bind λv_30=>some v_30) (λr=>some r)
def fJ (n_1:Int) (low_2:Int) (high_3:Int):Option (Bool) :=
  (bif (decide (n_1<low_2))then some true else some (decide (n_1>high_3))).bind λv_4=>some v_4
def jR (n_1:Int):Option (Bool) :=
  (fJ n_1 1 20000).bind λr_2=>some (!r_2)
def gP (k_2:Nat) (x_4:Int) (s_7:Unit):Option (Ctl (Unit) (Int)) :=
  (jR x_4).bind λr_12=>bif (!r_12)then some (.ret 1)else some (.go ())
def gK (l_1:(List Int)):Option (Int) :=
  (forL l_1 () (λk x s=>gP k x s)).bind λo_10=>thenC o_10 (λs_7=>some 0) (λr=>some r)
def fP (r_1:Rect):Option (Int) :=
  ((fJ r_1.X (-100000) 100000).bind λr_5=>bif r_5 then some true else (fJ r_1.Y (-100000) 100000).bind λr_8=>some r_8).bind λv_3=>bif v_3 then some 1 else ((fJ r_1.W 1 (w64 (100000-r_1.X))).bind λr_13=>bif r_13 then some true else (fJ r_1.H 1 (w64 (100000-r_1.Y))).bind λr_16=>some r_16).bind λv_11=>bif v_11 then some 1 else some 0
def jK (r_1:Rect) (wv_2:Int) (h_3:Int):Option (Bool) :=
  (bif (decide (r_1.X>=0))then bif (decide (r_1.Y>=0))then bif (decide ((w64 (r_1.X+r_1.W))<=wv_2))then some (decide ((w64 (r_1.Y+r_1.H))<=h_3))else some false else some false else some false).bind λv_5=>some v_5
noncomputable def eG (l_1:Layout) (k_10:Nat) (x_12:Zone) (s_15:Unit):Option (Ctl (Unit) (Int)) :=
  (ni x_12.Key).bind λr_21=>bif (!r_21)then some (.ret 5)else (fP x_12.On).bind λr_24=>bif (r_24 != 0)then some (.ret r_24)else (jK x_12.On l_1.W l_1.H).bind λr_27=>bif (!r_27)then some (.ret 3)else (fJ x_12.Order 0 1000).bind λr_30=>bif r_30 then some (.ret 1)else (bif (decide ((k_10:Int)>0))then (idx l_1.Zones (w64 ((k_10:Int)-1))).bind λy_36=>some (sLe x_12.Key y_36.Key)else some false).bind λv_33=>bif v_33 then some (.ret 7)else some (.go ())
noncomputable def dI (l_1:Layout):Option (Int) :=
  (ni l_1.Key).bind λr_3=>bif (!r_3)then some 5 else (gK ([l_1.W,l_1.H]:List Int)).bind λr_6=>bif (r_6 != 0)then some r_6 else bif (decide ((l_1.Zones.length:Int)>30))then some 2 else (forL l_1.Zones () (λk x s=>eG l_1 k x s)).bind λo_18=>thenC o_18 (λs_15=>some 0) (λr=>some r)
def gD (k_3:Nat) (x_5:Int) (s_8:ByteArray):Option (Ctl (ByteArray) (Unit)) :=
  (strconv_Itoa x_5).bind λr_13=>(kS (⟨#[32]⟩:ByteArray) r_13).bind λs_15=>(kS s_8 s_15).bind λs_17=>some (.go s_17)
def jC (first_1:ByteArray) (numbers_2:(List Int)):Option (ByteArray) :=
  (forL numbers_2 first_1 (λk x s=>gD k x s)).bind λo_11=>thenC o_11 (λs_8=>some s_8) (λ_=>none)
def iG (k_17:Nat) (x_19:Zone) (s_22:(List Int)):Option (Ctl ((List Int)) (Unit)) :=
  (kS (⟨#[122,111,110,101,32]⟩:ByteArray) x_19.Key).bind λs_30=>(jC s_30 ([x_19.On.X,x_19.On.Y,x_19.On.W,x_19.On.H,x_19.Order]:List Int)).bind λr_32=>(kS r_32 (⟨#[10]⟩:ByteArray)).bind λs_34=>(GQ s_22 s_34).bind λa_36=>some (.go a_36)
noncomputable def je (l_1:Layout):Option (ByteArray×Int) :=
  (dI l_1).bind λr_3=>bif (r_3 != 0)then some ((⟨#[]⟩:ByteArray),r_3)else (kS (⟨#[108,97,121,111,117,116,32]⟩:ByteArray) l_1.Key).bind λs_8=>(jC s_8 ([l_1.W,l_1.H]:List Int)).bind λr_10=>(kS r_10 (⟨#[10]⟩:ByteArray)).bind λs_12=>(GQ ([]:List Int) s_12).bind λa_14=>(forL l_1.Zones a_14 (λk x s=>iG k x s)).bind λo_27=>thenC o_27 (λs_22=>(vY s_22).bind λs_39=>some (s_39,0)) (λ_=>none)
def mG (n_1:Int) (low_2:Int) (high_3:Int):Option (Bool) :=
  (bif (decide (low_2<=n_1))then some (decide (n_1<=high_3))else some false).bind λv_4=>some v_4
def bU (s_1:ByteArray) (c_2:Int):Option (Int) :=
  some (ixB s_1 c_2)
def strings_IndexByte (s_1:ByteArray) (c_2:Int):Option (Int) :=
  (bU s_1 c_2).bind λr_3=>some r_3
def kv (s_1:ByteArray) (somev_2:ByteArray) (k_3:Nat) (x_5:Nat) (s_8:Unit):Option (Ctl (Unit) (Bool)) :=
  (sQ s_1 (k_3:Int)).bind λb_13=>(strings_IndexByte somev_2 (b_13.toNat:Int)).bind λr_15=>bif (decide (r_15<0))then some (.ret false)else some (.go ())
def lU (s_1:ByteArray) (somev_2:ByteArray):Option (Bool) :=
  (forL (List.range ((s_1.size:Int)).toNat) () (λk x s=>kv s_1 somev_2 k x s)).bind λo_11=>thenC o_11 (λs_8=>some true) (λr=>some r)
def rM (s_1:ByteArray):Option (Bool) :=
  ((mG (s_1.size:Int) 1 40).bind λr_4=>bif r_4 then (lc s_1 0 1).bind λy_7=>(lU y_7 (⟨#[97,98,99,100,101,102,103,104,105,106,107,108,109,110,111,112,113,114,115,116,117,118,119,120,121,122]⟩:ByteArray)).bind λr_9=>bif r_9 then (lU s_1 (⟨#[97,98,99,100,101,102,103,104,105,106,107,108,109,110,111,112,113,114,115,116,117,118,119,120,121,122,48,49,50,51,52,53,54,55,56,57,45,95]⟩:ByteArray)).bind λr_12=>some r_12 else some false else some false).bind λv_2=>some v_2
def pG (n_1:Int):Option (Bool) :=
  (mG n_1 1 20000).bind λr_2=>some r_2
def jN (r_1:Rect):Option (Int) :=
  ((mG r_1.X (-100000) 100000).bind λr_5=>bif (!r_5)then some true else (mG r_1.Y (-100000) 100000).bind λr_8=>bif (!r_8)then some true else (mG r_1.W 1 (w64 (100000-r_1.X))).bind λr_11=>bif (!r_11)then some true else (mG r_1.H 1 (w64 (100000-r_1.Y))).bind λr_14=>some (!r_14)).bind λv_3=>bif v_3 then some 1 else some 0
def p8 (r_1:Rect) (wv_2:Int) (h_3:Int):Option (Bool) :=
  (bif (decide (r_1.X>=0))then bif (decide (r_1.Y>=0))then bif (decide ((w64 (r_1.X+r_1.W))<=wv_2))then some (decide ((w64 (r_1.Y+r_1.H))<=h_3))else some false else some false else some false).bind λv_5=>some v_5
def fZ (l_1:Layout) (k_15:Nat) (x_17:Zone) (s_20:ByteArray):Option (Ctl (ByteArray) (Int)) :=
  (rM x_17.Key).bind λr_26=>bif (!r_26)then some (.ret 5)else (jN x_17.On).bind λr_29=>bif (r_29 != 0)then some (.ret r_29)else (p8 x_17.On l_1.W l_1.H).bind λr_32=>bif (!r_32)then some (.ret 3)else (mG x_17.Order 0 1000).bind λr_35=>bif (!r_35)then some (.ret 1)else bif (sLe x_17.Key s_20)then some (.ret 7)else some (.go x_17.Key)
def fE (l_1:Layout):Option (Int) :=
  (rM l_1.Key).bind λr_3=>bif (!r_3)then some 5 else ((pG l_1.W).bind λr_8=>bif (!r_8)then some true else (pG l_1.H).bind λr_11=>some (!r_11)).bind λv_6=>bif v_6 then some 1 else bif (decide ((l_1.Zones.length:Int)>30))then some 2 else (forL l_1.Zones (⟨#[]⟩:ByteArray) (λk x s=>fZ l_1 k x s)).bind λo_23=>thenC o_23 (λs_20=>some 0) (λr=>some r)
def strings_Split (x0:ByteArray) (x1:ByteArray):Option ((List ByteArray)) :=
  yN x0 x1
def oP (s_1:ByteArray):Option ((List ByteArray)×Bool) :=
  (strings_Split s_1 (⟨#[10]⟩:ByteArray)).bind λr_2=>(idx r_2 (w64 ((r_2.length:Int)-1))).bind λy_4=>bif (sEq y_4 (⟨#[]⟩:ByteArray))then (r9 r_2 0 (w64 ((r_2.length:Int)-1))).bind λy_7=>some (y_7,true)else some (r_2,false)
def cO (v_2:ByteArray) (k_3:Nat) (x_5:ByteArray) (s_8:Unit):Option (Ctl (Unit) (Int)) :=
  bif (sEq v_2 x_5)then some (.ret (k_3:Int))else some (.go ())
def ek (s_1:(List ByteArray)) (v_2:ByteArray):Option (Int) :=
  (forL s_1 () (λk x s=>cO v_2 k x s)).bind λo_11=>thenC o_11 (λs_8=>some (-1)) (λr=>some r)
def bG (s_1:(List ByteArray)) (v_2:ByteArray):Option (Bool) :=
  (ek s_1 v_2).bind λr_3=>some (decide (r_3>=0))
def lH (s_1:ByteArray):Option ((List ByteArray)×Bool) :=
  (strings_Split s_1 (⟨#[32]⟩:ByteArray)).bind λr_2=>(bG r_2 (⟨#[]⟩:ByteArray)).bind λr_4=>some (r_2,(!r_4))
def bW (s_1:ByteArray) (prefixv_2:ByteArray):Option (Bool) :=
  (bif (decide ((s_1.size:Int)>=(prefixv_2.size:Int)))then (lc s_1 0 (prefixv_2.size:Int)).bind λy_6=>some (sEq y_6 prefixv_2)else some false).bind λv_3=>some v_3
def bO (s_1:ByteArray) (prefixv_2:ByteArray):Option (ByteArray) :=
  (bW s_1 prefixv_2).bind λr_3=>bif r_3 then (lc s_1 (prefixv_2.size:Int) s_1.size).bind λy_6=>some y_6 else some s_1
def strings_TrimPrefix (s_1:ByteArray) (prefixv_2:ByteArray):Option (ByteArray) :=
  (bO s_1 prefixv_2).bind λr_3=>some r_3
def strconv_Atoi (x0:ByteArray):Option (Int) :=
  Dx x0
def eX (r_3:ByteArray) (s_18:Int):Option (Ctl (Int) (Int×Bool)) :=
  bif (decide (s_18<(r_3.size:Int)))then ((sQ r_3 s_18).bind λb_26=>bif (decide ((b_26.toNat:Int)<48))then some true else (sQ r_3 s_18).bind λb_29=>some (decide ((b_29.toNat:Int)>57))).bind λv_24=>bif v_24 then some (.ret (0,false))else some (.go (w64 (s_18+1)))else some (.brk s_18)
noncomputable def nP (s_1:ByteArray) (most_2:Int):Option (Int×Bool) :=
  (strings_TrimPrefix s_1 (⟨#[45]⟩:ByteArray)).bind λr_3=>(bif (sEq r_3 (⟨#[]⟩:ByteArray))then some true else bif (decide ((r_3.size:Int)>most_2))then some true else (sQ r_3 0).bind λb_9=>bif ((b_9.toNat:Int)==48)then some (sNe s_1 (⟨#[48]⟩:ByteArray))else some false).bind λv_5=>bif v_5 then some (0,false)else (lV 0 (λs=>eX r_3 s)).bind λo_21=>thenC o_21 (λs_18=>(strconv_Atoi s_1).bind λr_32=>some (r_32,true)) (λr=>some r)
noncomputable def pq (s_1:ByteArray):Option (Int×Bool) :=
  (nP s_1 9).bind λr_2=>some (r_2.1,r_2.2)
noncomputable def fq (k_2:Nat) (x_4:ByteArray) (s_7:(List Int)):Option (Ctl ((List Int)) ((List Int)×Bool)) :=
  (pq x_4).bind λr_15=>bif (!r_15.2)then some (.ret (([]:(List Int)),false))else (kY s_7 ([r_15.1]:List Int)).bind λa_18=>some (.go a_18)
noncomputable def lY (l_1:(List ByteArray)):Option ((List Int)×Bool) :=
  (forL l_1 ([]:List Int) (λk x s=>fq k x s)).bind λo_13=>thenC o_13 (λs_7=>some (s_7,true)) (λr=>some r)
noncomputable def eD (line_1:ByteArray) (word_2:ByteArray) (many_3:Int):Option (ByteArray×(List Int)×Bool) :=
  (lH line_1).bind λr_4=>(bif (!r_4.2)then some true else bif ((r_4.1.length:Int) != (w64 (many_3+2)))then some true else (idx r_4.1 0).bind λy_10=>some (sNe y_10 word_2)).bind λv_6=>bif v_6 then some ((⟨#[]⟩:ByteArray),([]:(List Int)),false)else (r9 r_4.1 2 r_4.1.length).bind λy_13=>(lY y_13).bind λr_15=>(idx r_4.1 1).bind λy_17=>some (y_17,r_15.1,r_15.2)
def fu (xs:(List Zone)):Option ((List Zone)) :=
  some xs
noncomputable def d9 (r_4:(List ByteArray)×Bool) (k_8:Nat) (x_10:ByteArray) (s_13:(List Zone)×ByteArray×Int×Int):Option (Ctl ((List Zone)×ByteArray×Int×Int) (Layout×Int×Int)) :=
  (bif ((k_8:Int)==0)then some ((⟨#[108,97,121,111,117,116]⟩:ByteArray),2)else some ((⟨#[122,111,110,101]⟩:ByteArray),5)).bind λv_21=>(eD x_10 v_21.1 v_21.2).bind λr_24=>(bif (!r_24.2.2)then some true else bif (!r_4.2)then some ((k_8:Int)==(w64 ((r_4.1.length:Int)-1)))else some false).bind λv_26=>bif v_26 then some (.ret ((⟨(⟨#[]⟩:ByteArray),0,0,([]:List Zone)⟩:Layout),(k_8:Int),9))else (bif ((k_8:Int)==0)then (idx r_24.2.1 0).bind λy_35=>(idx r_24.2.1 1).bind λy_37=>some (s_13.1,r_24.1,y_35,y_37)else (idx r_24.2.1 0).bind λy_39=>(idx r_24.2.1 1).bind λy_41=>(idx r_24.2.1 2).bind λy_43=>(idx r_24.2.1 3).bind λy_45=>(idx r_24.2.1 4).bind λy_47=>(kY s_13.1 ([(⟨r_24.1,(⟨y_39,y_41,y_43,y_45⟩:Rect),y_47⟩:Zone)]:List Zone)).bind λa_49=>some (a_49,s_13.2.1,s_13.2.2.1,s_13.2.2.2)).bind λv_31=>some (.go (v_31.1,v_31.2.1,v_31.2.2.1,v_31.2.2.2))
noncomputable def jl (text_1:ByteArray):Option (Layout×Int×Int) :=
  bif (decide ((text_1.size:Int)>200000))then some ((⟨(⟨#[]⟩:ByteArray),0,0,([]:List Zone)⟩:Layout),0,2)else (oP text_1).bind λr_4=>bif ((r_4.1.length:Int)==0)then some ((⟨(⟨#[]⟩:ByteArray),0,0,([]:List Zone)⟩:Layout),0,9)else (forL r_4.1 (([]:List Zone),(⟨#[]⟩:ByteArray),0,0) (λk x s=>d9 r_4 k x s)).bind λo_19=>thenC o_19 (λs_13=>(dI (⟨s_13.2.1,s_13.2.2.1,s_13.2.2.2,s_13.1⟩:Layout)).bind λr_52=>bif (r_52 != 0)then some ((⟨(⟨#[]⟩:ByteArray),0,0,([]:List Zone)⟩:Layout),0,r_52)else (fu s_13.1).bind λr_55=>some ((⟨s_13.2.1,s_13.2.2.1,s_13.2.2.2,r_55⟩:Layout),0,0)) (λr=>some r)
def rG (line_1:ByteArray):Option ((List ByteArray)×Bool) :=
  (strings_Split line_1 (⟨#[32]⟩:ByteArray)).bind λr_2=>(bG r_2 (⟨#[]⟩:ByteArray)).bind λr_4=>some (r_2,(!r_4))
def nu (s_1:ByteArray) (most_2:Int):Option (Int×Bool) :=
  (strings_TrimPrefix s_1 (⟨#[45]⟩:ByteArray)).bind λr_3=>(bif (sEq r_3 (⟨#[]⟩:ByteArray))then some true else bif (decide ((r_3.size:Int)>most_2))then some true else (lU r_3 (⟨#[48,49,50,51,52,53,54,55,56,57]⟩:ByteArray)).bind λr_9=>some (!r_9)).bind λv_5=>bif v_5 then some (0,false)else (strconv_Atoi s_1).bind λr_12=>((strconv_Itoa r_12).bind λr_16=>some (sEq r_16 s_1)).bind λv_14=>some (r_12,v_14)
def fM (most_2:Int) (k_3:Nat) (x_5:ByteArray) (s_8:(List Int)×Bool):Option (Ctl ((List Int)×Bool) (Unit)) :=
  (nu x_5 most_2).bind λr_16=>((kY s_8.1 ([r_16.1]:List Int)).bind λa_21=>bif s_8.2 then some (a_21,r_16.2)else some (a_21,false)).bind λv_18=>some (.go (v_18.1,v_18.2))
def iW (l_1:(List ByteArray)) (most_2:Int):Option ((List Int)×Bool) :=
  (forL l_1 (([]:List Int),true) (λk x s=>fM most_2 k x s)).bind λo_14=>thenC o_14 (λs_8=>some (s_8.1,s_8.2)) (λ_=>none)
def fK (line_1:ByteArray) (p_2:Bool) (p_3:Layout):Option (Bool×Bool×Layout) :=
  (rG line_1).bind λr_4=>(bif p_2 then some ((⟨#[108,97,121,111,117,116]⟩:ByteArray),4)else some ((⟨#[122,111,110,101]⟩:ByteArray),7)).bind λv_6=>(bif (!r_4.2)then some true else (idx r_4.1 0).bind λy_12=>bif (sNe y_12 v_6.1)then some true else some ((r_4.1.length:Int) != v_6.2)).bind λv_9=>bif v_9 then some (false,p_2,p_3)else (r9 r_4.1 2 r_4.1.length).bind λy_16=>(iW y_16 9).bind λr_18=>(bif p_2 then (idx r_4.1 1).bind λy_24=>(idx r_18.1 0).bind λy_26=>(idx r_18.1 1).bind λy_28=>some (p_3.Zones,y_24,y_26,y_28)else (idx r_4.1 1).bind λy_30=>(idx r_18.1 0).bind λy_32=>(idx r_18.1 1).bind λy_34=>(idx r_18.1 2).bind λy_36=>(idx r_18.1 3).bind λy_38=>(idx r_18.1 4).bind λy_40=>(kY p_3.Zones ([(⟨y_30,(⟨y_32,y_34,y_36,y_38⟩:Rect),y_40⟩:Zone)]:List Zone)).bind λa_42=>some (a_42,p_3.Key,p_3.W,p_3.H)).bind λv_20=>some (r_18.2,false,(⟨v_20.2.1,v_20.2.2.1,v_20.2.2.2,v_20.1⟩:Layout))
def dE (s_1:ByteArray) (substr_2:ByteArray):Option (Int) :=
  (bif ((substr_2.size:Int)==0)then some true else some (sEq substr_2 s_1)).bind λv_3=>bif v_3 then some 0 else bif ((substr_2.size:Int)==1)then (sQ substr_2 0).bind λb_8=>(bU s_1 (b_8.toNat:Int)).bind λr_10=>some r_10 else bif (decide ((substr_2.size:Int)>=(s_1.size:Int)))then some (-1)else none
def dS (s_1:ByteArray) (sep_2:ByteArray):Option (ByteArray×ByteArray×Bool) :=
  (dE s_1 sep_2).bind λr_3=>bif (decide (r_3>=0))then (lc s_1 0 r_3).bind λy_6=>(lc s_1 (w64 (r_3+(sep_2.size:Int))) s_1.size).bind λy_8=>some (y_6,y_8,true)else some (s_1,(⟨#[]⟩:ByteArray),false)
def strings_Cut (s_1:ByteArray) (sep_2:ByteArray):Option (ByteArray×ByteArray×Bool) :=
  (dS s_1 sep_2).bind λr_3=>some (r_3.1,r_3.2.1,r_3.2.2)
def dn (s_10:(List Zone)×ByteArray×Int×Bool×ByteArray×Int×Int):Option (Ctl ((List Zone)×ByteArray×Int×Bool×ByteArray×Int×Int) (Int×Bool×Bool×Layout)) :=
  bif (sNe s_10.2.1 (⟨#[]⟩:ByteArray))then (strings_Cut s_10.2.1 (⟨#[10]⟩:ByteArray)).bind λr_18=>(bif (!r_18.2.2)then some (s_10.1,true,s_10.2.2.2.1,s_10.2.2.2.2.1,s_10.2.2.2.2.2.1,s_10.2.2.2.2.2.2)else (fK r_18.1 s_10.2.2.2.1 (⟨s_10.2.2.2.2.1,s_10.2.2.2.2.2.1,s_10.2.2.2.2.2.2,s_10.1⟩:Layout)).bind λr_24=>some (r_24.2.2.Zones,(!r_24.1),r_24.2.1,r_24.2.2.Key,r_24.2.2.W,r_24.2.2.H)).bind λv_20=>bif v_20.2.1 then some (.ret (s_10.2.2.1,false,v_20.2.2.1,(⟨v_20.2.2.2.1,v_20.2.2.2.2.1,v_20.2.2.2.2.2,v_20.1⟩:Layout)))else some (.go (v_20.1,r_18.2.1,(w64 (s_10.2.2.1+1)),v_20.2.2.1,v_20.2.2.2.1,v_20.2.2.2.2.1,v_20.2.2.2.2.2))else some (.brk (s_10.1,s_10.2.1,s_10.2.2.1,s_10.2.2.2.1,s_10.2.2.2.2.1,s_10.2.2.2.2.2.1,s_10.2.2.2.2.2.2))
noncomputable def jF (text_1:ByteArray) (take2_3:Bool) (take2_4:Layout):Option (Int×Bool×Bool×Layout) :=
  (lV (take2_4.Zones,text_1,0,take2_3,take2_4.Key,take2_4.W,take2_4.H) (λs=>dn s)).bind λo_15=>thenC o_15 (λs_10=>some (0,true,s_10.2.2.2.1,(⟨s_10.2.2.2.2.1,s_10.2.2.2.2.2.1,s_10.2.2.2.2.2.2,s_10.1⟩:Layout))) (λr=>some r)
noncomputable def fe (text_1:ByteArray):Option (Layout×Int×Int) :=
  bif (decide ((text_1.size:Int)>200000))then some ((⟨(⟨#[]⟩:ByteArray),0,0,([]:List Zone)⟩:Layout),0,2)else (jF text_1 true (⟨(⟨#[]⟩:ByteArray),0,0,([]:List Zone)⟩:Layout)).bind λr_7=>(bif (!r_7.2.1)then some true else some r_7.2.2.1).bind λv_10=>bif v_10 then some ((⟨(⟨#[]⟩:ByteArray),0,0,([]:List Zone)⟩:Layout),r_7.1,9)else (fE r_7.2.2.2).bind λr_14=>bif (r_14 != 0)then some ((⟨(⟨#[]⟩:ByteArray),0,0,([]:List Zone)⟩:Layout),0,r_14)else some (r_7.2.2.2,0,0)
def bf (s2_2:(List Zone)) (k_4:Nat) (x_6:Zone) (s_9:Unit):Option (Ctl (Unit) (Bool)) :=
  (idx s2_2 (k_4:Int)).bind λy_14=>bif (!((x_6.Key.toList==y_14.Key.toList)&&(((x_6.On.X==y_14.On.X)&&((x_6.On.Y==y_14.On.Y)&&((x_6.On.W==y_14.On.W)&&((x_6.On.H==y_14.On.H)&&true))))&&((x_6.Order==y_14.Order)&&true))))then some (.ret false)else some (.go ())
def cB (s1_1:(List Zone)) (s2_2:(List Zone)):Option (Bool) :=
  bif ((s1_1.length:Int) != (s2_2.length:Int))then some false else (forL s1_1 () (λk x s=>bf s2_2 k x s)).bind λo_12=>thenC o_12 (λs_9=>some true) (λr=>some r)
def fV (a_1:Layout) (b_2:Layout):Option (Bool) :=
  (bif (sEq a_1.Key b_2.Key)then bif (a_1.W==b_2.W)then bif (a_1.H==b_2.H)then (cB a_1.Zones b_2.Zones).bind λr_10=>some r_10 else some false else some false else some false).bind λv_5=>some v_5
def jd (k_3:Nat) (x_5:Rect) (s_8:Unit):Option (Ctl (Unit) (Int)) :=
  (fP x_5).bind λr_14=>bif (r_14 != 0)then some (.ret r_14)else some (.go ())
def jc (l_1:(List Rect)):Option (Int) :=
  bif (decide ((l_1.length:Int)>2000))then some 2 else (forL l_1 () (λk x s=>jd k x s)).bind λo_11=>thenC o_11 (λs_8=>some 0) (λr=>some r)
def eF (n_1:Int):Option Bool :=
  bif (decide (n_1<0))then none else bif (decide ((w64 (n_1-(w64 (0-0))))>0))then (zN (w64 (n_1-(w64 (0-0)))) 32).bind λ_=>some true else some false
def dW (k_2:Nat) (x_4:(List Rect)) (s_7:Int):Option (Ctl (Int) (Unit)) :=
  (bif (decide ((w64 (s_7+(x_4.length:Int)))<0))then none else some ()).bind λv_12=>some (.go (w64 (s_7+(x_4.length:Int))))
def dX (k_18:Nat) (x_20:(List Rect)) (s_23:(List Rect)):Option (Ctl ((List Rect)) (Unit)) :=
  (kY s_23 x_20).bind λa_30=>some (.go a_30)
def dD (slices_1:(List (List Rect))):Option ((List Rect)) :=
  (forL slices_1 0 (λk x s=>dW k x s)).bind λo_10=>thenC o_10 (λs_7=>(eF s_7).bind λb_15=>(forL slices_1 ([]:List Rect) (λk x s=>dX k x s)).bind λo_28=>thenC o_28 (λs_23=>some s_23) (λ_=>none)) (λ_=>none)
def fI (x:(List Int)):Option ((List Int)) :=
  FW x
def dU (s_1:(List Int)) (s_8:Int) (s_28:(List Int)×Int×Int):Option (Ctl ((List Int)×Int×Int) (Unit)) :=
  bif (decide (s_28.2.2<(((((s_1.length:Int)).toNat-(s_8).toNat):Nat):Int)))then (inN s_28.2.2 (((s_1.length:Int)).toNat-(s_8).toNat)).bind λ_=>(s_28.1[(((s_8).toNat)+(s_28.2.2).toNat)]?).bind λe_35=>(inN (w64 (s_28.2.2-1)) (((s_1.length:Int)).toNat-(s_8).toNat)).bind λ_=>(s_28.1[(((s_8).toNat)+((w64 (s_28.2.2-1))).toNat)]?).bind λe_38=>(bif (e_35 != e_38)then (inN s_28.2.2 (((s_1.length:Int)).toNat-(s_8).toNat)).bind λ_=>(s_28.1[(((s_8).toNat)+(s_28.2.2).toNat)]?).bind λe_44=>(inR s_28.2.1 s_28.1).bind λ_=>(s_28.1[(0+(s_28.2.1).toNat)]?).bind λe_47=>some ((s_28.1.set (0+(s_28.2.1).toNat) e_44),(w64 (s_28.2.1+1)))else some (s_28.1,s_28.2.1)).bind λv_40=>some (.go (v_40.1,v_40.2,(w64 (s_28.2.2+1))))else some (.brk (s_28.1,s_28.2.1,s_28.2.2))
noncomputable def dx (s_1:(List Int)) (s_8:Int):Option (Ctl (Int) ((List Int))) :=
  bif (decide (s_8<(s_1.length:Int)))then (inR s_8 s_1).bind λ_=>(s_1[(0+(s_8).toNat)]?).bind λe_15=>(inR (w64 (s_8-1)) s_1).bind λ_=>(s_1[(0+((w64 (s_8-1))).toNat)]?).bind λe_18=>bif (e_15==e_18)then (neL s_1).bind λ_=>(xu s_1 s_8 (s_1.length:Int)).bind λ_=>(lV (s_1,s_8,1) (λs=>dU s_1 s_8 s)).bind λo_31=>thenC o_31 (λs_28=>(xu s_28.1 s_28.2.1 (s_28.1.length:Int)).bind λ_=>(xu (s_28.1.take ((s_28.2.1).toNat)++List.replicate (((s_28.1.length:Int)).toNat-(s_28.2.1).toNat) 0++s_28.1.drop (((s_28.2.1).toNat)+(((s_28.1.length:Int)).toNat-(s_28.2.1).toNat))) 0 s_28.2.1).bind λ_=>some (.ret (cutL (s_28.1.take ((s_28.2.1).toNat)++List.replicate (((s_28.1.length:Int)).toNat-(s_28.2.1).toNat) 0++s_28.1.drop (((s_28.2.1).toNat)+(((s_28.1.length:Int)).toNat-(s_28.2.1).toNat))) 0 ((s_28.2.1).toNat)))) (λ_=>none)else some (.go (w64 (s_8+1)))else some (.brk s_8)
noncomputable def dN (s_1:(List Int)):Option ((List Int)) :=
  bif (decide ((s_1.length:Int)<2))then some s_1 else (lV 1 (λs=>dx s_1 s)).bind λo_11=>thenC o_11 (λs_8=>some s_1) (λr=>some r)
def oJ (a_1:Run) (b_2:Run):Option (Int) :=
  some (w64 (a_1.f_from-b_2.f_from))
def mr (x_1:Int):Option (Int) :=
  (bif (decide (x_1>=4294967296))then (Ih .u64 x_1 32).bind λq_5=>some (q_5,32)else some (x_1,0)).bind λv_2=>(bif (decide (v_2.1>=65536))then (Ih .u64 v_2.1 16).bind λq_10=>some (q_10,(w64 (v_2.2+16)))else some (v_2.1,v_2.2)).bind λv_7=>(bif (decide (v_7.1>=256))then (Ih .u64 v_7.1 8).bind λq_15=>some (q_15,(w64 (v_7.2+8)))else some (v_7.1,v_7.2)).bind λv_12=>(sQ (⟨#[0,1,2,2,3,3,3,3,4,4,4,4,4,4,4,4,5,5,5,5,5,5,5,5,5,5,5,5,5,5,5,5,6,6,6,6,6,6,6,6,6,6,6,6,6,6,6,6,6,6,6,6,6,6,6,6,6,6,6,6,6,6,6,6,7,7,7,7,7,7,7,7,7,7,7,7,7,7,7,7,7,7,7,7,7,7,7,7,7,7,7,7,7,7,7,7,7,7,7,7,7,7,7,7,7,7,7,7,7,7,7,7,7,7,7,7,7,7,7,7,7,7,7,7,7,7,7,7,8,8,8,8,8,8,8,8,8,8,8,8,8,8,8,8,8,8,8,8,8,8,8,8,8,8,8,8,8,8,8,8,8,8,8,8,8,8,8,8,8,8,8,8,8,8,8,8,8,8,8,8,8,8,8,8,8,8,8,8,8,8,8,8,8,8,8,8,8,8,8,8,8,8,8,8,8,8,8,8,8,8,8,8,8,8,8,8,8,8,8,8,8,8,8,8,8,8,8,8,8,8,8,8,8,8,8,8,8,8,8,8,8,8,8,8,8,8,8,8,8,8,8,8,8,8,8,8]⟩:ByteArray) (IntKind.u8.wrap v_12.1)).bind λb_17=>some (w64 (v_12.2+(w64 (b_17.toNat:Int))))
def lL (x_1:Int):Option (Int) :=
  (mr x_1).bind λr_2=>some r_2
def bu (a_2:Int) (s_21:(List Run)×Int):Option (Ctl ((List Run)×Int) (Unit)) :=
  (bif (decide (s_21.2>a_2))then (inR s_21.2 s_21.1).bind λ_=>(s_21.1[(0+(s_21.2).toNat)]?).bind λe_30=>(inR (w64 (s_21.2-1)) s_21.1).bind λ_=>(s_21.1[(0+((w64 (s_21.2-1))).toNat)]?).bind λe_33=>(oJ e_30 e_33).bind λr_35=>some (decide (r_35<0))else some false).bind λv_26=>bif v_26 then (inR (w64 (s_21.2-1)) s_21.1).bind λ_=>(s_21.1[(0+((w64 (s_21.2-1))).toNat)]?).bind λe_39=>(inR s_21.2 s_21.1).bind λ_=>(s_21.1[(0+(s_21.2).toNat)]?).bind λe_42=>(inR s_21.2 s_21.1).bind λ_=>(s_21.1[(0+(s_21.2).toNat)]?).bind λe_45=>(inR (w64 (s_21.2-1)) (s_21.1.set (0+(s_21.2).toNat) e_39)).bind λ_=>((s_21.1.set (0+(s_21.2).toNat) e_39)[(0+((w64 (s_21.2-1))).toNat)]?).bind λe_48=>some (.go (((s_21.1.set (0+(s_21.2).toNat) e_39).set (0+((w64 (s_21.2-1))).toNat) e_42),(w64 (s_21.2-1))))else some (.brk (s_21.1,s_21.2))
noncomputable def aV (b_3:Int) (a_2:Int) (s_10:(List Run)×Int):Option (Ctl ((List Run)×Int) (Unit)) :=
  bif (decide (s_10.2<b_3))then (lV (s_10.1,s_10.2) (λs=>bu a_2 s)).bind λo_24=>thenC o_24 (λs_21=>some (.go (s_21.1,(w64 (s_10.2+1))))) (λ_=>none)else some (.brk (s_10.1,s_10.2))
noncomputable def aW (data_1:(List Run)) (a_2:Int) (b_3:Int):Option ((List Run)) :=
  (lV (data_1,(w64 (a_2+1))) (λs=>aV b_3 a_2 s)).bind λo_13=>thenC o_13 (λs_10=>some s_10.1) (λ_=>none)
noncomputable def bg (b_3:Int) (a_2:Int) (data_1:(List Run)) (limit_4:Int) (s_11:Unit):Option (Ctl (Unit) ((List Run))) :=
  bif (decide ((w64 (b_3-a_2))<=12))then (aW data_1 a_2 b_3).bind λr_17=>(sj r_17 data_1).bind λ_=>some (.ret r_17)else bif (limit_4==0)then none else none
noncomputable def bA (data_1:(List Run)) (a_2:Int) (b_3:Int) (limit_4:Int):Option ((List Run)) :=
  (lV () (λs=>bg b_3 a_2 data_1 limit_4 s)).bind λo_14=>thenC o_14 (λs_11=>some data_1) (λr=>some r)
noncomputable def aX (x_1:(List Run)):Option ((List Run)) :=
  (lL (IntKind.u64.wrap (x_1.length:Int))).bind λr_3=>(bA x_1 0 (x_1.length:Int) r_3).bind λr_5=>(sj r_5 x_1).bind λ_=>some r_5
def kK (y_2:Int) (k_3:Nat) (x_5:Rect) (s_8:(List Run)):Option (Ctl ((List Run)) (Unit)) :=
  (bif (decide (x_5.Y<=y_2))then some (decide (y_2<(w64 (x_5.Y+x_5.H))))else some false).bind λv_17=>(bif v_17 then (kY s_8 ([(⟨x_5.X,(w64 (x_5.X+x_5.W))⟩:Run)]:List Run)).bind λa_24=>some a_24 else some s_8).bind λv_20=>some (.go v_20)
def kL (k_30:Nat) (x_32:Run) (s_35:(List Run)):Option (Ctl ((List Run)) (Unit)) :=
  (bif (decide ((w64 ((s_35.length:Int)-1))>=0))then (inR (w64 ((s_35.length:Int)-1)) s_35).bind λ_=>(s_35[(0+((w64 ((s_35.length:Int)-1))).toNat)]?).bind λe_48=>some (decide (x_32.f_from<=e_48.f_to))else some false).bind λv_44=>(bif v_44 then (inR (w64 ((s_35.length:Int)-1)) s_35).bind λ_=>(s_35[(0+((w64 ((s_35.length:Int)-1))).toNat)]?).bind λe_55=>(inR (w64 ((s_35.length:Int)-1)) s_35).bind λ_=>(s_35[(0+((w64 ((s_35.length:Int)-1))).toNat)]?).bind λe_58=>some (s_35.set (0+((w64 ((s_35.length:Int)-1))).toNat) (⟨e_58.f_from,(zM e_55.f_to x_32.f_to)⟩:Run))else (kY s_35 ([x_32]:List Run)).bind λa_60=>some a_60).bind λv_50=>some (.go v_50)
noncomputable def ko (l_1:(List Rect)) (y_2:Int):Option ((List Run)) :=
  (forL l_1 ([]:List Run) (λk x s=>kK y_2 k x s)).bind λo_14=>thenC o_14 (λs_8=>(aX s_8).bind λr_27=>(sj r_27 s_8).bind λ_=>(forL r_27 ([]:List Run) (λk x s=>kL k x s)).bind λo_41=>thenC o_41 (λs_35=>some s_35) (λ_=>none)) (λ_=>none)
def kR (m_2:(List Run)) (x_5:Run) (s_22:Int):Option (Ctl (Int) (Unit)) :=
  (bif (decide (s_22<(m_2.length:Int)))then (idx m_2 s_22).bind λy_30=>some (decide (y_30.f_to<=x_5.f_from))else some false).bind λv_27=>bif v_27 then some (.go (w64 (s_22+1)))else some (.brk s_22)
def kN (m_2:(List Run)) (x_5:Run) (s_38:(List Run)×Int×Int):Option (Ctl ((List Run)×Int×Int) (Unit)) :=
  (bif (decide (s_38.2.1<(m_2.length:Int)))then (idx m_2 s_38.2.1).bind λy_48=>some (decide (y_48.f_from<x_5.f_to))else some false).bind λv_45=>bif v_45 then (idx m_2 s_38.2.1).bind λy_51=>(bif (decide (y_51.f_from>s_38.2.2))then (idx m_2 s_38.2.1).bind λy_57=>(kY s_38.1 ([(⟨s_38.2.2,y_57.f_from⟩:Run)]:List Run)).bind λa_59=>some a_59 else some s_38.1).bind λv_53=>(idx m_2 s_38.2.1).bind λy_62=>some (.go (v_53,(w64 (s_38.2.1+1)),(zM s_38.2.2 y_62.f_to)))else some (.brk (s_38.1,s_38.2.1,s_38.2.2))
noncomputable def jr (m_2:(List Run)) (k_3:Nat) (x_5:Run) (s_8:(List Run)×Int):Option (Ctl ((List Run)×Int) (Unit)) :=
  (lV s_8.2 (λs=>kR m_2 x_5 s)).bind λo_25=>thenC o_25 (λs_22=>(lV (s_8.1,s_22,x_5.f_from) (λs=>kN m_2 x_5 s)).bind λo_43=>thenC o_43 (λs_38=>(bif (decide (s_38.2.2<x_5.f_to))then (kY s_38.1 ([(⟨s_38.2.2,x_5.f_to⟩:Run)]:List Run)).bind λa_68=>some a_68 else some s_38.1).bind λv_64=>some (.go (v_64,s_22))) (λ_=>none)) (λ_=>none)
noncomputable def lX (l_1:(List Run)) (m_2:(List Run)):Option ((List Run)) :=
  (forL l_1 (([]:List Run),0) (λk x s=>jr m_2 k x s)).bind λo_14=>thenC o_14 (λs_8=>some s_8.1) (λ_=>none)
def dK (s2_2:(List Run)) (k_4:Nat) (x_6:Run) (s_9:Unit):Option (Ctl (Unit) (Bool)) :=
  (idx s2_2 (k_4:Int)).bind λy_14=>bif (!((x_6.f_from==y_14.f_from)&&((x_6.f_to==y_14.f_to)&&true)))then some (.ret false)else some (.go ())
def dh (s1_1:(List Run)) (s2_2:(List Run)):Option (Bool) :=
  bif ((s1_1.length:Int) != (s2_2.length:Int))then some false else (forL s1_1 () (λk x s=>dK s2_2 k x s)).bind λo_12=>thenC o_12 (λs_9=>some true) (λr=>some r)
def jy (k_5:Nat) (x_7:Rect) (s_10:(List Int)):Option (Ctl ((List Int)) (Unit)) :=
  (kY s_10 ([x_7.Y,(w64 (x_7.Y+x_7.H))]:List Int)).bind λa_19=>some (.go a_19)
def jE (s_32:(List Rect)×(List Run)×Int) (x_29:Int) (k_54:Nat) (x_56:Run) (s_59:(List Rect)):Option (Ctl ((List Rect)) (Unit)) :=
  (kY s_59 ([(⟨x_56.f_from,s_32.2.2,(w64 (x_56.f_to-x_56.f_from)),(w64 (x_29-s_32.2.2))⟩:Rect)]:List Rect)).bind λa_67=>some (.go a_67)
noncomputable def gY (r_25:(List Int)) (l_1:(List Rect)) (m_2:(List Rect)) (k_27:Nat) (x_29:Int) (s_32:(List Rect)×(List Run)×Int):Option (Ctl ((List Rect)×(List Run)×Int) (Unit)) :=
  (bif (decide ((w64 ((k_27:Int)+1))<(r_25.length:Int)))then (ko l_1 x_29).bind λr_45=>(ko m_2 x_29).bind λr_47=>(lX r_45 r_47).bind λr_49=>some r_49 else some ([]:List Run)).bind λv_42=>(dh s_32.2.1 v_42).bind λr_51=>bif r_51 then some (.go (s_32.1,s_32.2.1,s_32.2.2))else (forL s_32.2.1 s_32.1 (λk x s=>jE s_32 x_29 k x s)).bind λo_64=>thenC o_64 (λs_59=>some (.go (s_59,v_42,x_29))) (λ_=>none)
noncomputable def jM (l_1:(List Rect)) (m_2:(List Rect)):Option ((List Rect)) :=
  (dD ([l_1,m_2]:List (List Rect))).bind λr_3=>(forL r_3 ([]:List Int) (λk x s=>jy k x s)).bind λo_16=>thenC o_16 (λs_10=>(fI s_10).bind λr_22=>(sj r_22 s_10).bind λ_=>(dN r_22).bind λr_25=>(forL r_25 (([]:List Rect),([]:List Run),0) (λk x s=>gY r_25 l_1 m_2 k x s)).bind λo_38=>thenC o_38 (λs_32=>some s_32.1) (λ_=>none)) (λ_=>none)
def nN (k_2:Nat) (x_4:Rect) (s_7:Int):Option (Ctl (Int) (Unit)) :=
  some (.go (w64 (s_7+(w64 (x_4.W*x_4.H)))))
def oC (l_1:(List Rect)):Option (Int) :=
  (forL l_1 0 (λk x s=>nN k x s)).bind λo_10=>thenC o_10 (λs_7=>some s_7) (λ_=>none)
noncomputable def l8 (l_1:(List Rect)):Option (Int×Int) :=
  (jc l_1).bind λr_2=>bif (r_2 != 0)then some (0,r_2)else (jM l_1 ([]:List Rect)).bind λr_5=>(oC r_5).bind λr_7=>some (r_7,0)
noncomputable def rT  : Option (Bool) :=
  (l8 ([(⟨0,0,2,2⟩:Rect),(⟨1,1,2,2⟩:Rect)]:List Rect)).bind λr_1=>(bif (r_1.2==0)then some (r_1.1==7)else some false).bind λv_3=>some v_3
noncomputable def jS (l_1:(List Int)):Option (Bool) :=
  (ik (⟨l_1,0⟩:Stream)).bind λr_3=>(fo r_3.2).bind λr_6=>(je r_3.1).bind λr_10=>(fE r_3.1).bind λr_12=>(bif (r_12==0)then (fF r_3.1).bind λr_17=>some r_17 else some (⟨#[]⟩:ByteArray)).bind λv_14=>(jl r_6.1).bind λr_19=>(fe r_6.1).bind λr_22=>(bif (r_10.2==r_12)then bif (sEq r_10.1 v_14)then (fV r_19.1 r_22.1).bind λr_29=>bif r_29 then bif (r_19.2.1==r_22.2.1)then bif (r_19.2.2==r_22.2.2)then (rT).bind λr_34=>some r_34 else some false else some false else some false else some false else some false).bind λv_25=>some v_25
end Go.Proofs.YtacmlgpnplklaaaGreatDoor.Law

