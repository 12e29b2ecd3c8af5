/-
  THE PLAIN LAW (part 3).
-/
import Derived.Test.YtadpbmfnnlkdlacGreatDoorPl2
import Derived.Test.YtadpbmfnnlkdlacGreatDoorEng5
open Go Go.Eng
namespace Go.Proofs.YtadpbmfnnlkdlacGreatDoor.Law
set_option linter.unusedVariables false
set_option linter.unusedSimpArgs false
set_option maxRecDepth 100000
structure GR (x:Receipt):Prop where
 player:ShA x.Player
 alert:ShA x.Alert
 at_ : -1100000000000<=x.At/\x.At<=1100000000000
def GRs (l:List Receipt):Prop:=(∀x∈l,GR x)/\l.length<=18
theorem Sa (p a:ByteArray) (N:ShA p) (Y:ShA a) (W:Bool) (k:Nat) (l:List Receipt) (hl:l.length<=100) (F:∀x∈l,GR x) (s:Stream) {b:Int} (hs:Ok s b) (hb:b<=200000) :
  ∃o A,jB p a k W (l,s.L,s.f_at)=some (.go (o,Stream.L A,Stream.f_at A))/\(∀x∈o,GR x)/\o.length<=l.length+1/\Ok A (b+2):=by
 have X:(⟨s.L,s.f_at⟩:Stream)=s:=rfl
 obtain ⟨f,B,O,I⟩:=Dn s 3 hs (by omega) (by decide) (by decide)
 unfold jB
 simp only []
 rw [X,O,ob_]
 simp only []
 cases f with
 | false=>exact⟨l,B,rfl,F,by omega,I.mono (by omega)⟩
 | true =>
  obtain ⟨w,J,M,d2,Z,R⟩:=lY B 0 50 I (by omega) (by decide) (by decide) (by decide)
  rw [cond_true,M,ob_]
  simp only []
  rw [kW _ _ (by simp only [List.length_cons,List.length_nil];omega)]
  refine⟨_,J,rfl,λx h => ?_,by simp,R.mono (by omega)⟩
  rcases List.mem_append.1 h with h|h
  ·exact F x h
  ·rw [List.mem_singleton.1 h]
   exact⟨N,Y,by simp only [];omega⟩
theorem Nu (p a:ByteArray) (A:ShA p) (B:ShA a) (k:Nat) (l:List Receipt) (hl:l.length<=90) (M:∀x∈l,GR x) (s:Stream) {b:Int} (hs:Ok s b) (hb:b<=190000) :
  ∃h o,jA p k a (l,s.L,s.f_at)=some (.go (h,Stream.L o,Stream.f_at o))/\(∀x∈h,GR x)/\h.length<=l.length+2/\Ok o (b+4):=by
 obtain ⟨X,I,W,a2,a3,a4⟩:=Sa p a A B false 0 l (by omega) M s hs (by omega)
 obtain ⟨N,F,O,R,Y,J⟩:=Sa p a A B true (0+1) X (by omega) a2 I a4 (by omega)
 refine⟨N,F,?_,R,by omega,J.mono (by omega)⟩
 unfold jA
 rw [je (by simp)]
 simp only [forR,W,O,ob_,thenC]
theorem IK (p:ByteArray) (A:ShA p) (k:Nat) (l:List Receipt) (hl:l.length<=50) (N:∀x∈l,GR x) (s:Stream) {b:Int} (hs:Ok s b) (hb:b<=180000) :
  ∃h o,jw k p (l,s.L,s.f_at)=some (.go (h,Stream.L o,Stream.f_at o))/\(∀x∈h,GR x)/\h.length<=l.length+6/\Ok o (b+12):=by
 obtain ⟨l1,I,Z,a2,a3,a4⟩:=Nu p ⟨#[97,97]⟩ A (pz rfl) 0 l (by omega) N s hs (by omega)
 obtain ⟨R,F,W,Y,b3,J⟩:=Nu p ⟨#[97,98]⟩ A (pz rfl) (0+1) l1 (by omega) a2 I a4 (by omega)
 obtain ⟨B,s3,X,O,c3,M⟩:=Nu p ⟨#[97,99]⟩ A (pz rfl) (0+1+1) R (by omega) Y F J (by omega)
 refine⟨B,s3,?_,O,by omega,M.mono (by omega)⟩
 unfold jw
 rw [je (by simp)]
 simp only [forR,Z,W,X,ob_,thenC]
theorem KC (s:Stream) {b:Int} (hs:Ok s b) (hb:b<=100000):∃l R,jD s=some (l,R)/\GRs l/\Ok R (b+50):=by
 obtain ⟨l1,Y,a1,a2,a3,a4⟩:=IK ⟨#[112,97]⟩ (pz rfl) 0 [] (by simp) (λx F=>by cases F) s hs (by omega)
 obtain ⟨l2,W,b1,b2,b3,Z⟩:=IK ⟨#[112,98]⟩ (pz rfl) (0+1) l1 (by simp at a3;omega) a2 Y a4 (by omega)
 obtain ⟨h,A,c1,I,c3,O⟩:=IK ⟨#[112,99]⟩ (pz rfl) (0+1+1) l2 (by simp at a3;omega) b2 W Z (by omega)
 have hl:h.length<=18:=by simp at a3;omega
 unfold jD
 rw [je (by simp)]
 simp only [forR,a1,b1,c1,ob_,thenC]
 have e0:(⟨A.L,A.f_at⟩:Stream)=A:=rfl
 by_cases h0:(h.length:Int)>0
 ·obtain ⟨f,B,d1,M⟩:=Dn A 15 O (by omega) (by decide) (by decide)
  rw [decide_eq_true h0,cond_true,e0,d1]
  simp only [ob_]
  cases f with
  | false=>exact⟨h,B,rfl,⟨I,hl⟩,M.mono (by omega)⟩
  | true =>
   rw [cond_true]
   obtain ⟨i,s5,g1,g2,g3,g4⟩:=yX B (h.length:Int) M (by omega) (by omega) (by omega)
   have e1:(⟨B.L,B.f_at⟩:Stream)=B:=rfl
   rw [e1,g1]
   simp only [ob_]
   rw [zK (by omega) (by omega)]
   simp only [ob_]
   have hi:0+i.toNat<h.length:=by omega
   have F:h[0+i.toNat]? = some h[0+i.toNat]:=List.getElem?_eq_getElem hi
   have o:=I _ (List.getElem_mem hi)
   generalize h[0+i.toNat]=x at F o
   obtain ⟨u,s6,j1,N,j3⟩:=CK s5 [x.Player,(⟨#[]⟩:ByteArray),(⟨#[122,122]⟩:ByteArray)] g4 (by omega) (by simp) (by simp)
   obtain ⟨v,s7,k1,J,X⟩:=CK s6 [x.Alert,(⟨#[65]⟩:ByteArray)] j3 (by omega) (by simp) (by simp)
   obtain ⟨w,s8,m1,m2,m3⟩:=odd_bd s7 0 50 X (by omega) (by decide) (by decide) (by decide)
   rw [F]
   simp only [ob_]
   rw [j1]
   simp only [ob_]
   rw [k1]
   simp only [ob_]
   rw [m1]
   simp only [ob_]
   rw [tq hi]
   simp only [ob_]
   rw [tq (by rw [List.length_set];exact hi)]
   simp only [ob_]
   refine⟨_,_,rfl,?_,m3.mono (by omega)⟩
   rw [List.set_set,List.set_set]
   refine⟨set_all I ⟨?_,?_,m2⟩,by rw [List.length_set];exact hl⟩
   ·simp only [List.mem_cons,List.not_mem_nil,or_false]at N
    rcases N with rfl|rfl|rfl
    ·exact o.player
    ·exact pz rfl
    ·exact pz rfl
   ·simp only [List.mem_cons,List.not_mem_nil,or_false]at J
    rcases J with rfl|rfl
    ·exact o.alert
    ·exact pz rfl
 ·rw [decide_eq_false h0,cond_false,ob_]
  exact⟨h,A,rfl,⟨I,hl⟩,O.mono (by omega)⟩
def flV (b:Bool):Int:=bif b then 1 else 0
theorem flag_eq (b:Bool):mE b=some (flV b):=by cases b <;> rfl
def cmR (a b:Receipt):Int:=or0 (zF a.Player b.Player) (or0 (zF a.Alert b.Alert) (Gb (flV a.Seen) (flV b.Seen)))
theorem IG (a b:Receipt):eG a b=some (cmR a b):=by
 unfold cmR
 simp only [eG,sO,flag_eq,xR,Td,ob_]
def Nb (p:Option Receipt) (x:Receipt):Int:=bif !keyB x.Player || !keyB x.Alert then 5 else bif !Dk x.At then 1 else bif Jq (λy=>decide (cmR y x>=0)) p then 7 else 0
def rcV (l:List Receipt):Int:=chA Nb none l
theorem RX {l:List Receipt} (h:GRs l):∀k x,l[k]? = some x->gW l k x ()=some (Bb (Nb (rU l k) x)):=λk x B=>by
 have hl:=h.2
 have F:=h.1 x (List.mem_of_getElem? B)
 have h1:=F.player
 have h2:=F.alert
 unfold ShA at h1 h2
 unfold gW Nb
 rw [qY _ (by omega),qY _ (by omega),zy,ND B (by omega) (λA=>(eG A x).bind λo=>some (decide (o>=0))) (λy=>decide (cmR y x>=0)) (λy _=>by rw [IG];rfl)]
 simp only [ob_]
 cases keyB x.Player <;> cases keyB x.Alert <;> cases Dk x.At <;> cases Jq (λy=>decide (cmR y x>=0)) (rU l k) <;> rfl
theorem rcV_K {l:List Receipt} (h:GRs l):jh l=some (rcV l):=by
 have hl:=h.2
 unfold jh rcV
 rw [decide_eq_false (by omega),cond_false,Ke (stp:=Nb) (body:=λk x s=>gW l k x s) (by omega) (RX h),ob_]
 exact PV _
theorem rcV_0 {l:List Receipt} (B:rcV l=0):∀x∈l,0<=x.At/\x.At<=345686399999:=λx A=>by
 obtain ⟨i,hi⟩:=List.getElem?_of_mem A
 obtain ⟨q,h,_⟩:=PE B i x hi
 unfold Nb at h
 cases e1:(!keyB x.Player || !keyB x.Alert)with
 | true=>rw [e1]at h;cases h
 | false =>
  rw [e1,cond_false]at h
  cases e2:Dk x.At with
  | false=>rw [e2]at h;cases h
  | true =>
   unfold Dk at e2
   have o:qF x.At 0 345686399999=false:=by cases hq:qF x.At 0 345686399999 with | false=>rfl | true=>rw [hq]at e2;cases e2
   exact BD o
end Go.Proofs.YtadpbmfnnlkdlacGreatDoor.Law

open Go Go.Eng
namespace Go.Proofs.YtadpbmfnnlkdlacGreatDoor.Law
set_option linter.unusedVariables false
set_option linter.unusedSimpArgs false
set_option maxRecDepth 100000
def cmK (a b:Receipt):Int:=or0 (cmR a b) (Gb a.At b.At)
theorem kn1_eq (a b:Receipt):lU a b=some (cmK a b):=by
 unfold lU cmK
 rw [IG,ob_,xR,ob_,Ku];rfl
theorem KF {a b:Receipt}:cmR a b<0↔lt a.Player b.Player\/a.Player=b.Player/\(lt a.Alert b.Alert\/a.Alert=b.Alert/\flV a.Seen<flV b.Seen):=by
 unfold cmR
 rw [yY,yY,xL,xW,xL,xW,Ab]
theorem Nf {a b:Receipt}:cmR a b=0↔a.Player=b.Player/\a.Alert=b.Alert/\flV a.Seen=flV b.Seen:=by
 unfold cmR
 rw [ME,ME,xW,xW,Aw]
theorem Ki {a b:Receipt}:cmK a b<0↔cmR a b<0\/cmR a b=0/\a.At<b.At:=by
 unfold cmK
 rw [yY,Ab]
theorem O5 (a b:Receipt):nK a b=some (decide (cmR a b=0)):=by
 unfold nK
 rw [IG];rfl
theorem sortK (s:List Receipt) (hl:s.length<=1000):∃r,iL s=some r/\r.Perm s:=by
 unfold iL
 obtain ⟨r,O,N,_⟩:=HY (F:=λa b=>lU a b) cmK (xs:=s) (by omega) (λa _ b _=>kn1_eq a b)
  (λa _ h=>by
   rw [Ki,KF]at h
   rcases h with (h|⟨_,h|⟨_,h⟩⟩) | ⟨_,h⟩
   ·exact gy _ h
   ·exact gy _ h
   ·omega
   ·omega)
  (λa _ b _ c _ h k=>by
   rw [Ki,KF,Nf]at *
   rcases h with (h|⟨h1,h|⟨h2,h⟩⟩) | ⟨⟨h1,h2,L⟩,h⟩ <;> rcases k with (k|⟨k1,k|⟨o,k⟩⟩) | ⟨⟨k1,o,J⟩,k⟩
   ·exact .inl (.inl (lt_trans h k))
   ·exact .inl (.inl (k1 ▸ h))
   ·exact .inl (.inl (k1 ▸ h))
   ·exact .inl (.inl (k1 ▸ h))
   ·exact .inl (.inl (h1 ▸ k))
   ·exact .inl (.inr ⟨h1.trans k1,.inl (lt_trans h k)⟩)
   ·exact .inl (.inr ⟨h1.trans k1,.inl (o ▸ h)⟩)
   ·exact .inl (.inr ⟨h1.trans k1,.inl (o ▸ h)⟩)
   ·exact .inl (.inl (h1 ▸ k))
   ·exact .inl (.inr ⟨h1.trans k1,.inl (h2 ▸ k)⟩)
   ·exact .inl (.inr ⟨h1.trans k1,.inr ⟨h2.trans o,by omega⟩⟩)
   ·exact .inl (.inr ⟨h1.trans k1,.inr ⟨h2.trans o,by omega⟩⟩)
   ·exact .inl (.inl (h1 ▸ k))
   ·exact .inl (.inr ⟨h1.trans k1,.inl (h2 ▸ k)⟩)
   ·exact .inl (.inr ⟨h1.trans k1,.inr ⟨h2.trans o,by omega⟩⟩)
   ·exact .inr ⟨⟨h1.trans k1,h2.trans o,L.trans J⟩,by omega⟩)
  (λa _ b _ c _ h k q=>by
   rw [Ki,KF,Nf]at *
   have M:∀x y:Receipt,(¬((lt x.Player y.Player\/x.Player=y.Player/\(lt x.Alert y.Alert\/x.Alert=y.Alert/\flV x.Seen<flV y.Seen))\/(x.Player=y.Player/\x.Alert=y.Alert/\flV x.Seen=flV y.Seen)/\x.At<y.At))->lt y.Player x.Player\/x.Player=y.Player/\(lt y.Alert x.Alert\/x.Alert=y.Alert/\(flV y.Seen<flV x.Seen\/flV x.Seen=flV y.Seen/\y.At<=x.At)):=by
    intro x y I
    rcases vK x.Player y.Player with e|e|e
    ·exact absurd (.inl (.inl e)) I
    ·rcases vK x.Alert y.Alert with f|f|f
     ·exact absurd (.inl (.inr ⟨e,.inl f⟩)) I
     ·refine .inr ⟨e,.inr ⟨f,?_⟩⟩
      rcases Int.lt_trichotomy (flV x.Seen) (flV y.Seen)with g|g|g
      ·exact absurd (.inl (.inr ⟨e,.inr ⟨f,g⟩⟩)) I
      ·refine .inr ⟨g,?_⟩
       by_cases hh:x.At<y.At
       ·exact absurd (.inr ⟨⟨e,f,g⟩,hh⟩) I
       ·omega
      ·exact .inl g
     ·exact .inr ⟨e,.inl f⟩
    ·exact .inl e
   have A:=M a b h
   have k':=M b c k
   have key:a.Player=c.Player->(lt b.Alert a.Alert\/a.Alert=b.Alert/\(flV b.Seen<flV a.Seen\/flV a.Seen=flV b.Seen/\b.At<=a.At))/\(lt c.Alert b.Alert\/b.Alert=c.Alert/\(flV c.Seen<flV b.Seen\/flV b.Seen=flV c.Seen/\c.At<=b.At)):=by
    intro B
    rcases A with A|⟨A,h2⟩
    ·rcases k' with k'|⟨k',_⟩
     ·exact absurd (lt_trans k' A) (by rw [B];exact gy _)
     ·rw [B,<- k']at A;exact absurd A (gy _)
    ·rcases k' with k'|⟨_,o⟩
     ·rw [<- A,B]at k';exact absurd k' (gy _)
     ·exact⟨h2,o⟩
   rcases q with (q|⟨B,q|⟨q2,q⟩⟩) | ⟨⟨B,q2,q3⟩,q⟩
   ·rcases A with A|⟨A,_⟩ <;> rcases k' with k'|⟨k',_⟩
    ·exact gy _ (lt_trans q (lt_trans k' A))
    ·rw [k']at A;exact gy _ (lt_trans q A)
    ·rw [A]at q;exact gy _ (lt_trans q k')
    ·rw [A,k']at q;exact gy _ q
   ·obtain ⟨h2,o⟩:=key B
    rcases h2 with h2|⟨h2,_⟩ <;> rcases o with o|⟨o,_⟩
    ·exact gy _ (lt_trans q (lt_trans o h2))
    ·rw [o]at h2;exact gy _ (lt_trans q h2)
    ·rw [h2]at q;exact gy _ (lt_trans q o)
    ·rw [h2,o]at q;exact gy _ q
   ·obtain ⟨h2,o⟩:=key B
    rcases h2 with h2|⟨h2,L⟩
    ·rcases o with o|⟨o,_⟩
     ·exact gy _ (lt_trans (q2 ▸ o) h2)
     ·rw [q2,<- o]at h2;exact gy _ h2
    ·rcases o with o|⟨o,J⟩
     ·rw [<- h2,q2]at o;exact gy _ o
     ·omega
   ·obtain ⟨h2,o⟩:=key B
    rcases h2 with h2|⟨h2,L⟩
    ·rcases o with o|⟨o,_⟩
     ·exact gy _ (lt_trans (q2 ▸ o) h2)
     ·rw [q2,<- o]at h2;exact gy _ h2
    ·rcases o with o|⟨o,J⟩
     ·rw [<- h2,q2]at o;exact gy _ o
     ·omega)
 exact⟨r,O,N⟩
end Go.Proofs.YtadpbmfnnlkdlacGreatDoor.Law

open Go Go.Eng
namespace Go.Proofs.YtadpbmfnnlkdlacGreatDoor.Law
set_option linter.unusedVariables false
set_option linter.unusedSimpArgs false
set_option maxRecDepth 100000
theorem OG {i:Int} {n:Nat} (h:0<=i) (h1:i<(n:Int)):inN i n=some ():=by
 unfold inN
 rw [if_pos ⟨h,by omega⟩]
theorem Ia (s:List Receipt) (h:Nat) (M:s.length<=100000):∀(m i2 k:Nat) (data:List Receipt),h+i2+m=s.length->1<=i2->data.length=s.length->k<=h+i2-1 ->
  ∃(o:List Receipt) (k':Nat) (Z:Int),iterN (λt=>aW s (h:Int) t) (m+1) (data,(k:Int),(i2:Int))=some (.go (o,(k':Int),Z))/\o.length=s.length/\k'<=s.length
 | 0,i2,k,data,hm,h1,B,Y=>by
  refine⟨data,k,(i2:Int),?_,B,by omega⟩
  have hc:decide ((i2:Int)<((((s.length:Int)).toNat-((h:Int)).toNat:Nat):Int))=false:=by simp;omega
  simp only [iterN,aW,hc,cond_false,ob_]
 | m+1,i2,k,data,hm,h1,B,Y=>by
  have W:h+i2<data.length:=by omega
  have hc:decide ((i2:Int)<((((s.length:Int)).toNat-((h:Int)).toNat:Nat):Int))=true:=by simp;omega
  have R:w64 ((i2:Int)-1)=((i2-1:Nat):Int):=by rw [fG (by omega)];omega
  have A:w64 ((i2:Int)+1)=((i2+1:Nat):Int):=by rw [fG (by omega)];omega
  have F:w64 ((k:Int)+1)=((k+1:Nat):Int):=by rw [fG (by omega)];omega
  have L:((h:Int)).toNat+((i2:Int)).toNat=h+i2:=by omega
  have O:((h:Int)).toNat+(((i2-1:Nat):Int)).toNat=h+i2-1:=by omega
  have N:inN (i2:Int) (((s.length:Int)).toNat-((h:Int)).toNat)=some ():=OG (by omega) (by omega)
  have J:inN ((i2-1:Nat):Int) (((s.length:Int)).toNat-((h:Int)).toNat)=some ():=OG (by omega) (by omega)
  have g1:data[h+i2]? = some data[h+i2]:=List.getElem?_eq_getElem W
  have I:data[h+i2-1]? = some (data[h+i2-1]'(by omega)):=List.getElem?_eq_getElem (by omega)
  have g3:data[0+((k:Int)).toNat]? = some (data[0+((k:Int)).toNat]'(by omega)):=List.getElem?_eq_getElem (by omega)
  have X:inR (k:Int) data=some ():=zK (by omega) (by omega)
  rw [iterN]
  cases hx:decide (cmR data[h+i2] (data[h+i2-1]'(by omega))=0)with
  | true =>
   have:aW s (h:Int) (data,(k:Int),(i2:Int))=some (.go (data,(k:Int),((i2+1:Nat):Int))):=by
    unfold aW
    simp only [hc,cond_true,N,ob_,L,g1,R,J,O,I,O5,hx,Bool.not_true,cond_false,A]
   rw [this,ob_]
   exact Ia s h M m (i2+1) k data (by omega) (by omega) B (by omega)
  | false =>
   have:aW s (h:Int) (data,(k:Int),(i2:Int))=some (.go (data.set (0+((k:Int)).toNat) data[h+i2],((k+1:Nat):Int),((i2+1:Nat):Int))):=by
    unfold aW
    simp only [hc,cond_true,N,ob_,L,g1,R,J,O,I,O5,hx,Bool.not_false,X,g3,A,F]
   rw [this,ob_]
   exact Ia s h M m (i2+1) (k+1) _ (by omega) (by omega) (by rw [List.length_set];exact B) (by omega)
theorem MK (s:List Receipt) (W:s.length<=100000):∀(m i:Nat),i+m=s.length->1<=i ->
  (∃j,iterN (λt=>aO s t) (m+1) (i:Int)=some (.go j))\/∃r,iterN (λt=>aO s t) (m+1) (i:Int)=some (.ret r)/\r.length<=s.length
 | 0,i,hm,h1=>by
  refine .inl ⟨(i:Int),?_⟩
  have hc:decide ((i:Int)<(s.length:Int))=false:=by simp;omega
  simp only [iterN,aO,hc,cond_false,ob_]
 | m+1,i,hm,h1=>by
  have hi:i<s.length:=by omega
  have hc:decide ((i:Int)<(s.length:Int))=true:=by simp;omega
  have Y:w64 ((i:Int)-1)=((i-1:Nat):Int):=by rw [fG (by omega)];omega
  have M:w64 ((i:Int)+1)=((i+1:Nat):Int):=by rw [fG (by omega)];omega
  have R:0+(i:Int).toNat=i:=by omega
  have X:0+((i-1:Nat):Int).toNat=i-1:=by omega
  have J:s[i]? = some s[i]:=List.getElem?_eq_getElem hi
  have A:s[i-1]? = some (s[i-1]'(by omega)):=List.getElem?_eq_getElem (by omega)
  have O:inR (i:Int) s=some ():=zK (by omega) (by omega)
  have i2:inR ((i-1:Nat):Int) s=some ():=zK (by omega) (by omega)
  rw [iterN]
  cases hx:decide (cmR s[i] (s[i-1]'(by omega))=0)with
  | false =>
   have:aO s (i:Int)=some (.go ((i+1:Nat):Int)):=by
    unfold aO
    simp only [hc,cond_true,Y,M,R,X,O,i2,J,A,ob_,O5,hx,cond_false]
   rw [this,ob_]
   exact MK s W m (i+1) (by omega) (by omega)
  | true =>
   right
   obtain ⟨h,k',i',q1,q2,q3⟩:=Ia s i W (s.length-(i+1)) 1 i s (by omega) (by omega) rfl (by omega)
   have I:=ng q1
   have one:((1:Nat):Int)=1:=rfl
   rw [one]at I
   have L:neL s=some ():=by
    cases s with
    | nil=>simp at hi
    | cons a l=>rfl
   have N:xm s (i:Int) (s.length:Int)=some ():=by unfold xm;rw [if_pos ⟨by omega,by omega,by omega,by omega⟩]
   have B:xm h (k':Int) (h.length:Int)=some ():=by unfold xm;rw [if_pos ⟨by omega,by omega,by omega,by omega⟩]
   have n1:((h.length:Int)).toNat=h.length:=by omega
   have Z:(k':Int).toNat=k':=by omega
   have o:∀z:Receipt,(h.take k'++List.replicate (h.length-k') z++h.drop (k'+(h.length-k'))).length=h.length:=λz=>by simp;omega
   have F:∀z:Receipt,xm (h.take k'++List.replicate (h.length-k') z++h.drop (k'+(h.length-k'))) 0 (k':Int)=some ():=λz=>by unfold xm;rw [if_pos ⟨by omega,by omega,by omega,by rw [o];omega⟩]
   refine⟨IW (h.take k'++List.replicate (h.length-k') (⟨(⟨#[]⟩:ByteArray),(⟨#[]⟩:ByteArray),0,false⟩:Receipt)++h.drop (k'+(h.length-k'))) 0 k',?_,?_⟩
   ·have:aO s (i:Int)=some (.ret (IW (h.take k'++List.replicate (h.length-k') (⟨(⟨#[]⟩:ByteArray),(⟨#[]⟩:ByteArray),0,false⟩:Receipt)++h.drop (k'+(h.length-k'))) 0 k')):=by
     unfold aO
     simp only [hc,cond_true,Y,R,X,O,i2,J,A,ob_,O5,hx,L,N,I,thenC,B,n1,Z,F]
    rw [this];rfl
   ·show (List.take (k'-0) (List.drop 0 _)).length<=_
    rw [List.length_take,List.length_drop,o]
    omega
theorem cf_ok (s:List Receipt) (A:s.length<=100000):∃r,bQ s=some r/\r.length<=s.length:=by
 unfold bQ
 by_cases h:(s.length:Int)<2
 ·rw [decide_eq_true h,cond_true]
  exact⟨s,rfl,Nat.le_refl _⟩
 ·rw [decide_eq_false h,cond_false]
  rcases MK s A (s.length-1) 1 (by omega) (Nat.le_refl _)with⟨j,h2⟩|⟨r,h2,o⟩
  ·have:=ng h2
   rw [show ((1:Nat):Int)=1 from rfl]at this
   rw [this]
   exact⟨s,rfl,Nat.le_refl _⟩
  ·have:=ng h2
   rw [show ((1:Nat):Int)=1 from rfl]at this
   rw [this]
   exact⟨r,rfl,o⟩
theorem P6 (a b:List Receipt) (N:a.length<=1000) (hb:b.length<=1000):cK [a,b]=some (a++b):=by
 have A:bE 0 a 0=some (.go (a.length:Int)):=by
  unfold bE
  rw [fG (by omega),decide_eq_false (by omega)]
  show some (Ctl.go (0+(a.length:Int)))=_
  rw [Int.zero_add]
 have M:bE (0+1) b (a.length:Int)=some (.go ((a.length:Int)+(b.length:Int))):=by
  unfold bE
  rw [fG (by omega),decide_eq_false (by omega)];rfl
 have g1:bG 0 a []=some (.go a):=by
  unfold bG
  rw [kW _ _ (by simp;omega)];rfl
 have F:bG (0+1) b a=some (.go (a++b)):=by
  unfold bG
  rw [kW _ _ (by omega)];rfl
 have o:∃q,dD ((a.length:Int)+(b.length:Int))=some q/\kE q (a++b)=some ():=by
  unfold dD
  have J:w64 (0-0)=0:=rfl
  rw [J,decide_eq_false (by omega),cond_false,fG (by omega)]
  by_cases h:(a.length:Int)+(b.length:Int)-0>0
  ·rw [decide_eq_true h,cond_true]
   have B:zN ((a.length:Int)+(b.length:Int)-0) 48=some ():=by
    unfold zN
    first | rw [if_pos (by omega)] | rfl
   rw [B]
   refine⟨true,rfl,?_⟩
   cases hab:a++b with
   | nil =>
    have:=congrArg List.length hab
    simp at this
    rw [this.1,this.2]at h
    simp at h
   | cons x l=>rfl
  ·rw [decide_eq_false h,cond_false]
   exact⟨false,rfl,rfl⟩
 obtain ⟨q,I,L⟩:=o
 unfold cK
 rw [je (by simp)]
 simp only [forR,A,M,ob_,thenC]
 rw [I]
 simp only [ob_]
 rw [je (by simp)]
 simp only [forR,g1,F,ob_,thenC,L]
end Go.Proofs.YtadpbmfnnlkdlacGreatDoor.Law

open Go Go.Eng
namespace Go.Proofs.YtadpbmfnnlkdlacGreatDoor.Law
set_option linter.unusedVariables false
set_option linter.unusedSimpArgs false
set_option maxRecDepth 100000
def befRc (a b:Receipt):Prop:=lt a.Player b.Player\/a.Player=b.Player/\lt a.Alert b.Alert
structure RRc (l:List Receipt):Prop where
 rise:l.Pairwise befRc
 key:∀x∈l,kit_IsKey x.Player=some true/\kit_IsKey x.Alert=some true
 mom:∀x∈l,0<=x.At/\x.At<=1000
 len:l.length<=15
end Go.Proofs.YtadpbmfnnlkdlacGreatDoor.Law

open Go Go.Eng
namespace Go.Proofs.YtadpbmfnnlkdlacGreatDoor.Law
set_option linter.unusedVariables false
set_option linter.unusedSimpArgs false
set_option maxRecDepth 100000
def eqP (a b:Pair):Bool:=eqS a.f_player b.f_player&&(eqS a.f_alert b.f_alert&&true)
theorem FZ (a b:Pair):eqP a b=true↔a=b:=by
 obtain ⟨B,a2⟩:=a
 obtain ⟨o,A⟩:=b
 unfold eqP
 rw [Bool.and_true,Bool.and_eq_true,wM,wM]
 constructor
 ·rintro ⟨h,k⟩
  simp only at h k
  rw [h,k]
 ·intro h
  cases h
  exact⟨rfl,rfl⟩
structure Just (l:List Alert) (ps:List Post) (inv t:Int) (m:List (Pair×Int)) (d:Debt):Prop where
 of:∃a∈l,∃p∈ps,d.Alert=a.Id/\d.Player=p.Player/\d.Due=a.At+inv/\hasB a.Areas p.X p.Y=true/\(mGet eqP m ⟨p.Player,a.Id⟩=some 0->a.At+inv<0)
 due:d.Due<t
 late:d.Got<0\/d.Due<d.Got
def cmpD (a b:Debt):Int:=or0 (zF a.Player b.Player) (zF a.Alert b.Alert)
theorem Gg {a b:Debt}:cmpD a b<0↔lt a.Player b.Player\/a.Player=b.Player/\lt a.Alert b.Alert:=by
 unfold cmpD
 rw [yY,xL,xW,xL]
theorem sortD (s:List Debt) (hl:s.length<=1000):∃r,fM s=some r/\r.Perm s:=by
 unfold fM
 obtain ⟨r,O,N,_⟩:=HY (F:=λa b=>nI a b) cmpD (xs:=s) (by omega) (λa _ b _=>by
   unfold nI cmpD
   rw [sO,sO]
   simp only [ob_]
   rw [Ku];rfl)
  (λa _ h=>by
   rcases Gg.1 h with q|⟨_,q⟩
   ·exact gy _ q
   ·exact gy _ q)
  (λa _ b _ c _ h k=>by
   rw [Gg]at *
   rcases h with h|⟨h,h2⟩ <;> rcases k with k|⟨k,I⟩
   ·exact .inl (lt_trans h k)
   ·rw [<- k];exact .inl h
   ·rw [h];exact .inl k
   ·exact .inr ⟨h.trans k,lt_trans h2 I⟩)
  (λa _ b _ c _ h k q=>by
   rw [Gg]at *
   simp only [not_or,not_and]at h k
   obtain ⟨h1,h2⟩:=h
   obtain ⟨J,I⟩:=k
   rcases vK a.Player b.Player with o|o|o
   ·exact h1 o
   ·rcases vK b.Player c.Player with A|A|A
    ·exact J A
    ·have M:=h2 o
     have L:=I A
     rcases q with q|⟨_,q⟩
     ·rw [o,A]at q;exact gy _ q
     ·rcases vK a.Alert b.Alert with B|B|B
      ·exact M B
      ·rw [B]at q;exact L q
      ·exact L (lt_trans B q)
    ·rw [o]at q
     rcases q with q|⟨q,_⟩
     ·exact gy _ (lt_trans q A)
     ·rw [q]at A;exact gy _ A
   ·rcases q with q|⟨q,_⟩
    ·exact J (lt_trans o q)
    ·rw [q]at o;exact J o)
 exact⟨r,O,N⟩
def aL:List ByteArray:=[⟨#[97,97]⟩,⟨#[97,98]⟩,⟨#[97,99]⟩,⟨#[97,100]⟩,⟨#[97,101]⟩]
structure RcJ (ps:List Post) (k j:Nat) (x:Post) (s:List Receipt):Prop where
 rise:s.Pairwise befRc
 of:∀r∈s,(∃p∈ps.take k,r.Player=p.Player/\r.Alert∈aL)\/r.Player=x.Player/\r.Alert∈aL.take j
 at_:∀r∈s,0<=r.At/\r.At<=60
 len:s.length<=5*k+j
theorem RcJ.mono {ps:List Post} {k j:Nat} {x:Post} {y:ByteArray} (o:aL[j]? = some y) {s:List Receipt} (h:RcJ ps k j x s):RcJ ps k (j+1) x s:=by
 have et:aL.take (j+1)=aL.take j++[y]:=by rw [List.take_add_one,o];rfl
 refine⟨h.rise,λr F => ?_,h.at_,by have:=h.len;omega⟩
 rcases h.of r F with q|⟨A,B⟩
 ·exact .inl q
 ·exact .inr ⟨A,by rw [et];exact List.mem_append_left _ B⟩
theorem RPosts.key {ps:List Post} (o:RPosts ps) {p:Post} (h:p∈ps):kit_IsKey p.Player=some true:=(o.right p h).key
end Go.Proofs.YtadpbmfnnlkdlacGreatDoor.Law

open Go Go.Eng
namespace Go.Proofs.YtadpbmfnnlkdlacGreatDoor.Law
set_option linter.unusedVariables false
set_option linter.unusedSimpArgs false
set_option maxRecDepth 100000
end Go.Proofs.YtadpbmfnnlkdlacGreatDoor.Law

open Go Go.Eng
namespace Go.Proofs.YtadpbmfnnlkdlacGreatDoor.Law
set_option linter.unusedVariables false
set_option linter.unusedSimpArgs false
set_option maxRecDepth 100000
def gS (p id:ByteArray) (t:Int) (x:Receipt) (g:Int):Int:=bif (decide (x.Player=p)&&(decide (x.Alert=id)&&(decide (x.At<=t)&&(decide (g<0)||decide (x.At<g)))))then x.At else g
def gV (p id:ByteArray) (t:Int) (l:List Receipt):Int:=l.foldl (λg x=>gS p id t x g) (-1)
theorem gV_snoc (p id:ByteArray) (t:Int) (l:List Receipt) (x:Receipt):gV p id t (l++[x])=gS p id t x (gV p id t l):=by
 unfold gV;rw [List.foldl_append];rfl
def gO (g:Int):Option Int:=bif decide (g<0)then none else some g
theorem Qz (r:List Receipt) (W:r.length<=100000) (M:∀x∈r,0<=x.At) (t:Int):∃m,tH r t=some m/\∀p id,mGet eqP m ⟨p,id⟩=gO (gV p id t r)/\(gV p id t r = -1\/0<=gV p id t r):=by
 unfold tH
 obtain ⟨u,R,B⟩:=kS (body:=λk x s=>ow t k x s) (λk s=>∀p id,mGet eqP s ⟨p,id⟩=gO (gV p id t (r.take k))/\(gV p id t (r.take k) = -1\/0<=gV p id t (r.take k))) (xs:=r) (s:=([]:List (Pair×Int))) (by omega) (λk x s F hs=>by
  have et:r.take (k+1)=r.take k++[x]:=by rw [List.take_add_one,F];rfl
  have h:=M x (List.mem_of_getElem? F)
  have L:(λ(a b:Pair)=>(eqS a.f_player b.f_player&&(eqS a.f_alert b.f_alert&&true)))=eqP:=rfl
  obtain ⟨o,A⟩:=hs x.Player x.Alert
  generalize N:gV x.Player x.Alert t (r.take k)=g at o A
  refine⟨bif (decide (x.At<=t)&&(decide (g<0)||decide (x.At<g)))then zY eqP s ⟨x.Player,x.Alert⟩ x.At else s,?_,λp id => ?_⟩
  ·unfold ow
   rw [L,o]
   unfold gO
   cases decide (x.At<=t) <;> cases h2:decide (g<0) <;> cases h3:decide (x.At<g) <;> simp only [cond_true,cond_false,Option.isSome_some,Option.isSome_none,Option.getD_some,Bool.not_true,Bool.not_false,ob_,Bool.false_and,Bool.true_and,Bool.or_false,Bool.or_true,Bool.false_or,Bool.true_or,h3]
  ·rw [et,gV_snoc]
   by_cases hk:p=x.Player/\id=x.Alert
   ·obtain ⟨rfl,rfl⟩:=hk
    rw [N]
    unfold gS
    rw [decide_eq_true rfl,decide_eq_true rfl,Bool.true_and,Bool.true_and]
    cases hc:(decide (x.At<=t)&&(decide (g<0)||decide (x.At<g)))with
    | false =>
     simp only [cond_false]
     exact⟨o,A⟩
    | true =>
     simp only [cond_true]
     rw [Au FZ,if_pos ((FZ _ _).2 rfl)]
     exact⟨by unfold gO;rw [decide_eq_false (by omega)];rfl,.inr h⟩
   ·have O:gS p id t x (gV p id t (r.take k))=gV p id t (r.take k):=by
     unfold gS
     have:(decide (x.Player=p)&&(decide (x.Alert=id)&&(decide (x.At<=t)&&(decide (gV p id t (r.take k)<0)||decide (x.At<gV p id t (r.take k))))))=false:=by
      by_cases h1:x.Player=p
      ·have h2:¬x.Alert=id:=λe=>hk ⟨h1.symm,e.symm⟩
       rw [decide_eq_false h2,Bool.false_and,Bool.and_false]
      ·rw [decide_eq_false h1,Bool.false_and]
     rw [this];rfl
    rw [O]
    obtain ⟨I,J⟩:=hs p id
    refine⟨?_,J⟩
    rw [<- I]
    cases (decide (x.At<=t)&&(decide (g<0)||decide (x.At<g)))with
    | false=>rfl
    | true =>
     rw [cond_true,Au FZ,if_neg (λq=>hk (by
      have:=(FZ _ _).1 q
      cases this
      exact⟨rfl,rfl⟩))]) (λp id=>⟨rfl,.inl rfl⟩)
 rw [List.take_length]at B
 rw [R]
 exact⟨u,rfl,B⟩
def shB (l:List Alert) (a:Alert) (p:Post) (t:Int):Bool:=(decide (a.Kind≠3)&&(decide (a.At<=t)&&decide (a.At<rX l a)))&&hasB a.Areas p.X p.Y
theorem R4 {l:List Alert} (h:CA l) {a:Alert} (o:a∈l) (p:Post) (t:Int):rD a (rX l a) p t=some (shB l a p t):=by
 unfold rD shB
 have e:(a.Kind != 3)=decide (a.Kind≠3):=by rw [Bool.eq_iff_iff];simp
 rw [e,Dt (h.areas a o) (h.alen a o)]
 cases decide (a.Kind≠3) <;> cases decide (a.At<=t) <;> cases decide (a.At<rX l a) <;> rfl
def dC (l:List Alert) (r:List Receipt) (inv t:Int) (p:Post) (a:Alert):Bool:=shB l a p t&&(decide (a.At+inv<t)&&((decide (gV p.Player a.Id t r<0)||decide (gV p.Player a.Id t r>a.At+inv))&&decide (rX l a>=a.At+inv)))
def dL (l:List Alert) (r:List Receipt) (inv t:Int) (p:Post) (a:Alert):List Debt:=bif dC l r inv t p a then [⟨p.Player,a.Id,a.At+inv,gV p.Player a.Id t r⟩]else []
theorem R9 (l:List Alert) (r:List Receipt) (inv t:Int) (p:Post) (a:Alert):(dL l r inv t p a).length<=1:=by
 unfold dL;cases dC l r inv t p a <;> simp
theorem debt_K {l:List Alert} (h:CA l) {r:List Receipt} {inv t:Int} (hi:0<=inv/\inv<=2592000000) {m:List (Pair×Int)} (hm:∀p id,mGet eqP m ⟨p,id⟩=gO (gV p id t r)/\(gV p id t r = -1\/0<=gV p id t r)) (p:Post) {k:Nat} {a:Alert} (B:l[k]? = some a) (s:List Debt) (hl:s.length<=1000) :
  mq (l.map (rX l)) p t inv m k a s=some (.go (s++dL l r inv t p a)):=by
 have o:=List.mem_of_getElem? B
 have J:=h.at_ a o
 have F:(λ(a b:Pair)=>(eqS a.f_player b.f_player&&(eqS a.f_alert b.f_alert&&true)))=eqP:=rfl
 have A:idx (l.map (rX l)) (k:Int)=some (rX l a):=Pp B
 have R:w64 (a.At+inv)=a.At+inv:=fG (by omega)
 obtain ⟨N,O⟩:=hm p.Player a.Id
 unfold mq dL dC
 rw [F,A,ob_,R4 h o,ob_,N,R]
 unfold gO
 generalize gV p.Player a.Id t r=g at O
 have M:decide (a.At+inv>=t) = !decide (a.At+inv<t):=by rw [Bool.eq_iff_iff];simp
 have L:decide (rX l a<a.At+inv) = !decide (rX l a>=a.At+inv):=by rw [Bool.eq_iff_iff];simp
 simp only [ob_,M,L]
 cases shB l a p t with
 | false=>simp
 | true =>
  cases decide (a.At+inv<t)with
  | false=>simp
  | true =>
   cases decide (rX l a>=a.At+inv)with
   | false=>simp
   | true =>
    simp only [Bool.not_true,cond_false,ob_,Bool.true_and,Bool.and_true]
    cases h2:decide (g<0)with
    | true =>
     have I:g = -1:=by
      have:=of_decide_eq_true h2
      omega
     subst I
     simp only [cond_true,Option.isSome_none,Bool.not_false,Bool.true_or]
     rw [kW _ _ (by simp only [List.length_cons,List.length_nil];omega)];rfl
    | false =>
     simp only [cond_false,Option.isSome_some,Bool.not_true,Option.getD_some,Bool.false_or]
     cases h3:decide (g>a.At+inv)with
     | true =>
      simp only [cond_true]
      rw [kW _ _ (by simp only [List.length_cons,List.length_nil];omega)];rfl
     | false=>simp
def dA (l:List Alert) (ps:List Post) (r:List Receipt) (inv t:Int):List Debt:=ps.flatMap λp=>l.flatMap λa=>dL l r inv t p a
theorem JU {α β:Type} (f:α->List β) (l:List α) (x:α):(l++[x]).flatMap f=l.flatMap f++f x:=by simp
theorem Ah {α β:Type} (f:α->List β) (n:Nat) (h:∀x,(f x).length<=n):∀l:List α,(l.flatMap f).length<=l.length*n
 | []=>by simp
 | x::l=>by
  rw [List.flatMap_cons,List.length_append,List.length_cons,Nat.succ_mul]
  have:=h x
  have:=Ah f n h l
  omega
theorem Nn {l:List Alert} (hl:l.length<=12) {ps:List Post} (Z:ps.length<=10) {r:List Receipt} {inv t:Int} {B:Post->Nat->Alert->List Debt->Option (Ctl (List Debt) Unit)} (M:∀p (k:Nat) a s,l[k]? = some a->s.length<=1000->B p k a s=some (.go (s++dL l r inv t p a)))
  {C:Nat->Post->List Debt->Option (Ctl (List Debt) Unit)} (N:∀k p s,C k p s=(forL l s (λj a s=>B p j a s)).bind λo=>thenC o (λs=>some (.go s)) (λ_=>none)):forL ps ([]:List Debt) (λk p s=>C k p s)=some (.go (dA l ps r inv t)):=by
 have h:∀(p:Post) (j:Nat),((l.take j).flatMap λa=>dL l r inv t p a).length<=12:=λp j=>by
  have h1:=Ah (λa=>dL l r inv t p a) 1 (λa=>R9 l r inv t p a) (l.take j)
  have h2:=take_len l j
  omega
 obtain ⟨u,O,R⟩:=kS (body:=λk p s=>C k p s) (λk s=>s=(ps.take k).flatMap λp=>l.flatMap λa=>dL l r inv t p a) (xs:=ps) (s:=([]:List Debt)) (by omega) (λk p s J hs=>by
  have Y:k<ps.length:=(List.getElem?_eq_some_iff.1 J).1
  have et:ps.take (k+1)=ps.take k++[p]:=by rw [List.take_add_one,J];rfl
  have X:s.length<=120:=by
   rw [hs]
   have h1:=Ah (λp=>l.flatMap λa=>dL l r inv t p a) 12 (λp=>by
    have:=h p l.length
    rwa [List.take_length]at this) (ps.take k)
   have h2:=take_len ps k
   omega
  obtain ⟨v,W,v2⟩:=kS (body:=λj a s=>B p j a s) (λj F=>F=s++(l.take j).flatMap λa=>dL l r inv t p a) (xs:=l) (s:=s) (by omega) (λj a F L A=>by
   have I:l.take (j+1)=l.take j++[a]:=by rw [List.take_add_one,L];rfl
   have:=h p j
   rw [M p j a F L (by rw [A,List.length_append];omega)]
   exact⟨_,rfl,by rw [I,JU,A,List.append_assoc]⟩) (by simp)
  rw [List.take_length]at v2
  rw [N,W]
  exact⟨v,rfl,by rw [et,JU,v2,hs]⟩) rfl
 rw [O,R,List.take_length];rfl
end Go.Proofs.YtadpbmfnnlkdlacGreatDoor.Law

open Go Go.Eng
namespace Go.Proofs.YtadpbmfnnlkdlacGreatDoor.Law
set_option linter.unusedVariables false
set_option linter.unusedSimpArgs false
set_option linter.unusedSectionVars false
theorem NB {σ ρ:Type} {body:Nat->Nat->σ->Option (Ctl σ ρ)} (I:Nat->σ->Prop) {n:Nat} {s:σ} (hl:n<=1000000) (h:∀k s,k<n->I k s->∃o,body k k s=some (.go o)/\I (k+1) o) (F:I 0 s):∃o,forL (List.range n) s body=some (.go o)/\I n o:=by
 have:=kS (body:=body) I (xs:=List.range n) (s:=s) (by rw [List.length_range];omega) (λk x s A hi=>by
  have B:k<n:=by have:=(List.getElem?_eq_some_iff.1 A).1;simpa using this
  rw [List.getElem?_range B,so_]at A
  subst A
  exact h k s B hi) F
 rw [List.length_range]at this
 exact this
theorem CJ {α β:Type} {xs:List α} {ys:List β} (h:xs.length=ys.length):iP xs ys=some ():=by unfold iP;rw [if_pos h]
theorem Rf {α:Type} (z:α) {B:Nat->Nat->List α->Option (Ctl (List α) Unit)} (J:∀k x s,B k x s=(inR (k:Int) s).bind λ_=>(s[(0+((k:Int)).toNat)]?).bind λ_=>some (.go (s.set (0+((k:Int)).toNat) z))) (l:List α) (hl:l.length<=1000000) :
  ∃A,(forL (List.range ((l.length:Int)).toNat) l B).bind (λo=>thenC o (λs=>some s) (λ_=>none))=some A/\iP A l=some ():=by
 have I:((l.length:Int)).toNat=l.length:=by simp
 obtain ⟨s,L,F⟩:=NB (body:=B) (λ_ s=>s.length=l.length) (n:=l.length) (s:=l) (by omega) (λk s M hs=>by
  rw [J]
  have h:k<s.length:=by omega
  refine⟨s.set k z,?_,by rw [List.length_set];exact hs⟩
  simp only [zK (i:=(k:Int)) (xs:=s) (by omega) (by omega),show 0+((k:Int)).toNat=k by simp,List.getElem?_eq_getElem h,ob_]) rfl
 rw [I,L]
 exact⟨s,rfl,CJ F⟩
theorem KX {α:Type} {l:List α} {B:Nat->Nat->Unit->Option (Ctl Unit Unit)} (A:∀k x s,B k x s=(inR (k:Int) l).bind λ_=>some (.go ())) (hl:l.length<=1000000) :
  (forL (List.range ((l.length:Int)).toNat) () B).bind (λo=>thenC o (λ_=>some ()) (λ_=>none))=some ():=by
 have h:((l.length:Int)).toNat=l.length:=by simp
 obtain ⟨s,F,_⟩:=NB (body:=B) (λ_ _=>True) (n:=l.length) (s:=()) (by omega) (λk s I _=>by
  rw [A,zK (by omega) (by omega)]
  exact⟨(),rfl,trivial⟩) trivial
 rw [h,F];rfl
theorem spS (l:List ByteArray) (hl:l.length<=1000000):lD l=some ():=KX (B:=λk x s=>jU l k x s) (λk x s=>rfl) hl
theorem spR (l:List Rect) (hl:l.length<=1000000):kz l=some ():=KX (B:=λk x s=>jq l k x s) (λk x s=>rfl) hl
theorem spA (l:List Alert) (hl:l.length<=1000000):jS l=some ():=KX (B:=λk x s=>jc l k x s) (λk x s=>rfl) hl
theorem spRc (l:List Receipt) (hl:l.length<=1000000):jr l=some ():=KX (B:=λk x s=>iO l k x s) (λk x s=>rfl) hl
theorem eqFn {α:Type} {B:Nat->α->Unit->Option (Ctl Unit Bool)} (l:List α) (hl:l.length<=1000000) (h:∀k x,l[k]? = some x->B k x ()=some (.go ())):(bif ((l.length:Int) != (l.length:Int))then some false else (forL l () B).bind λo=>thenC o (λ_=>some true) (λr=>some r))=some true:=by
 obtain ⟨s,A,_⟩:=kS (body:=B) (λ_ _=>True) (xs:=l) (s:=()) (by omega) (λk x s F _=>by
  cases s
  exact⟨(),h k x F,trivial⟩) trivial
 have e:((l.length:Int) != (l.length:Int))=false:=by simp
 rw [e,A];rfl
section
variable {l:List Alert} {f:Nat}
theorem D8 (B:(l.map (·.Id)).Nodup):∀(xs o:List Alert),(∀x∈xs,x∈l)->(∀x∈o,x∈l)->KA o->∃u,L6 o xs=some u/\KA u/\(∀x,x∈u↔x∈o\/x∈xs)
 | [],o,_,_,I=>⟨o,rfl,I,λx=>by simp⟩
 | x::xs,o,W,ho,I=>by
  have J:=W x (by simp)
  unfold L6 Lg
  cases hk:Dj x.Id o with
  | none =>
   have R:=Ei hk
   obtain ⟨u,M,N,X⟩:=D8 B xs (o++[x]) (λy A=>W y (List.mem_cons_of_mem _ A)) (λy A=>by
    rcases List.mem_append.1 A with A|A
    ·exact ho y A
    ·rw [List.mem_singleton.1 A];exact J) (by
    unfold KA at I ⊢
    rw [List.map_append]
    exact List.nodup_append.2 ⟨I,by simp,λa Y b hb e=>by
     obtain ⟨y,A,rfl⟩:=List.mem_map.1 Y
     have:b=x.Id:=by simpa using hb
     exact R y A (e.trans this)⟩)
   refine⟨u,M,N,λy => ?_⟩
   rw [X,List.mem_append,List.mem_singleton,List.mem_cons,or_assoc]
  | some i =>
   obtain ⟨hi,O⟩:=Kb hk
   have L:=List.getElem_mem hi
   obtain ⟨m,hm⟩:=List.getElem?_of_mem (ho _ L)
   obtain ⟨Z,F⟩:=List.getElem?_of_mem J
   have e:o[i]=x:=by
    have:=GN B hm F O
    subst this
    rw [hm]at F
    exact Option.some.inj F
   simp only [List.getElem?_eq_getElem hi,e,if_true,ob_]
   obtain ⟨u,M,N,X⟩:=D8 B xs o (λy A=>W y (List.mem_cons_of_mem _ A)) ho I
   refine⟨u,M,N,λy => ?_⟩
   rw [X]
   constructor
   ·rintro (h|h)
    ·exact .inl h
    ·exact .inr (List.mem_cons_of_mem _ h)
   ·rintro (h|h)
    ·exact .inl h
    ·rcases List.mem_cons.1 h with h|h
     ·rw [h,<- e];exact .inl L
     ·exact .inr h
theorem RAlerts.sub {n:Nat} (h:RAlerts l n) {p:List Alert} (o:p.Sublist l):RAlerts p n :=
 ⟨λx A=>h.right x (o.subset A),h.rise.sublist o,h.ids.sublist (o.map _),Nat.le_trans o.length_le h.len⟩
theorem Mr {x:Alert} (h:RightA x):RA x:=by
 refine⟨h.ga,?_⟩
 have h1:=alF_K h.ga
 rw [CP h]at h1
 exact (Option.some.inj h1).symm
theorem QB (h:RAlerts l 6) {p q:List Alert} (I:p.Sublist l) (F:q.Sublist l) (ha:∀x∈l,x∈p\/x∈q):qK p q=some (l,0):=by
 have hll:=h.len
 have hpl:=I.length_le
 have hql:=F.length_le
 have cp:=w9 (h.sub I) (by omega)
 have cq:=w9 (h.sub F) (by omega)
 have M:forL (List.range (2:Int).toNat) () (λk x s=>jO p q k x s)=some (.go ()):=by
  have q1:∀x,jO p q 0 x ()=some (.go ()):=λx=>by
   unfold jO
   have:idx ([p,q]:List (List Alert)) ((0:Nat):Int)=some p:=rfl
   rw [this,ob_,cp];rfl
  have q2:∀x,jO p q (0+1) x ()=some (.go ()):=λx=>by
   unfold jO
   have:idx ([p,q]:List (List Alert)) ((0+1:Nat):Int)=some q:=rfl
   rw [this,ob_,cq];rfl
  have er:List.range (2:Int).toNat=[0,1]:=rfl
  rw [er,je (by simp)]
  simp only [forR,q1,q2,ob_]
 have hm:∀e∈p++q,RA e:=λe he=>Mr (h.right e ((List.mem_append.1 he).elim (λk=>I.subset k) (λk=>F.subset k)))
 obtain ⟨u,u1,u2,u3⟩:=D8 h.ids (p++q) [] (λx L=>(List.mem_append.1 L).elim (λk=>I.subset k) (λk=>F.subset k)) (by simp) (by simp [KA])
 have Y:=Ji (B:=λk x s=>kJ k x s) (λl=>(l.map Bw,l)) (λk x Z L ho hl=>progA L ho hl k) (p++q) 0 [] hm (by simp) (by simp [KA]) (by simp;omega)
 rw [u1]at Y
 have N:forL (p++q) (([]:List (ByteArray×Alert)),([]:List Alert)) (λk x s=>kJ k x s)=some (.go (u.map Bw,u)):=by
  rw [je (by simp;omega)];exact Y
 have nd:∀{m:List Alert},KA m->m.Nodup:=λhk=>(List.pairwise_map.1 hk).imp (λk e=>k (by rw [e]))
 have o:u.Perm l:=(List.perm_ext_iff_of_nodup (nd u2) (nd h.ids)).2 (λx=>by
  rw [u3]
  constructor
  ·rintro (k|k)
   ·cases k
   ·exact (List.mem_append.1 k).elim (λk=>I.subset k) (λk=>F.subset k)
  ·exact λk => .inr (List.mem_append.2 (ha x k)))
 have J:∀a b:Alert,befA a b->¬befA b a:=λa b h k=>MX _ (GM h k)
 obtain ⟨r,r1,X,r3⟩:=sort12r (cmp:=ja) (S:=dX) (λ_=>rfl) (xs:=u) (by rw [o.length_eq];omega) (R:=befA) (λa _ b _=>ET a b) J (λa b d h k=>ER h k)
 have W:r=l:=List.Perm.eq_of_pairwise (le:=λa b=>¬befA b a) (λx y L hy h1 h2=>by
  obtain ⟨m,hm⟩:=List.getElem?_of_mem (o.mem_iff.1 (X.mem_iff.1 L))
  obtain ⟨m',A⟩:=List.getElem?_of_mem hy
  by_cases e:x.Id=y.Id
  ·have:=GN h.ids hm A e
   subst this
   rw [hm]at A
   exact Option.some.inj A
  ·rcases Lt x y e with k|k
   ·exact absurd k h2
   ·exact absurd k h1) r3 (h.rise.imp (λk=>J _ _ k)) (X.trans o)
 subst W
 have O:iP r u=some ():=CJ X.length_eq
 have hul:=o.length_eq
 have e1:decide (((u.length:Nat):Int)>300)=false:=decide_eq_false (by omega)
 unfold qK
 simp only [M,ob_,tN,Nk p q (by omega) (by omega),N,e1,cond_false,r1,O]
end
theorem PM {a:List Receipt} (B:GRs a):∃r:List Receipt×Int,tF a []=some r/\r.1.length<=100:=by
 have hb:GRs []:=⟨λx J=>(by cases J),by simp⟩
 have h1:=B.2
 obtain ⟨s,I,A⟩:=sortK (a++[]) (by rw [List.length_append];simp;omega)
 have h:=A.length_eq
 rw [List.length_append]at h
 simp only [List.length_nil,Nat.add_zero]at h
 obtain ⟨r,L,X⟩:=cf_ok s (by omega)
 have O:iP s (a++[])=some ():=CJ A.length_eq
 have F:∀(k:Nat) (l:List Receipt),([a,[]]:List (List Receipt))[k]? = some l->GRs l->om a [] k k ()=some (bif rcV l != 0 then .ret ([],rcV l)else .go ()):=λk l hl o=>by
  unfold om
  rw [wW,hl]
  simp only [ob_]
  rw [rcV_K o]
  simp only [ob_]
  cases rcV l != 0 <;> rfl
 have M:=F 0 a rfl B
 have W:=F (0+1) [] rfl hb
 have R:List.range (2:Int).toNat=[0,0+1]:=rfl
 unfold tF
 rw [R,je (by simp)]
 simp only [forR,M,ob_]
 cases hv:rcV a != 0 with
 | true=>exact⟨_,rfl,by simp⟩
 | false =>
  simp only [cond_false,W,ob_]
  have N:(rcV [] != 0)=false:=rfl
  rw [N]
  simp only [cond_false,thenC,ob_]
  rw [P6 a [] (by omega) (by simp),ob_,I,ob_,O,ob_,L,ob_,decide_eq_false (by omega)]
  exact⟨_,rfl,by simp only [];omega⟩
theorem R6 {l:List Alert} {n:Nat} (h:RAlerts l n) (A:n<=300) {ps:List Post} (o:RPosts ps):iM l ps=some 0:=by
 unfold iM
 rw [w9 h A,ob_,KY o];rfl
theorem Qq {l:List Alert} {n:Nat} (h:RAlerts l n) (M:n<=12) {ps:List Post} (I:RPosts ps) {r:List Receipt} (L:GRs r):∃d:List Debt×Int,uf l ps r 5 40=some d/\d.1.length<=1000:=by
 have hc:=h.ca M
 have hl:=hc.len
 have N:=I.len
 have O:=L.2
 unfold uf rG
 simp only [R6 h (by omega) I,ob_,bne_self_eq_false,cond_false,rcV_K L]
 cases hv:rcV r != 0 with
 | true=>exact⟨_,rfl,by simp⟩
 | false =>
  have F:rcV r=0:=by simpa [bne]using hv
  have W:=rcV_0 F
  have X:((aY 5 0 2592000000).bind λA=>bif A then some true else (bX 40).bind λo=>some (!o))=some false:=by kernel_rfl
  simp only [X,cond_false,ob_]
  obtain ⟨m,R,Z⟩:=Qz r (by omega) (λx hx=>(W x hx).1) 40
  have a1:=Nn (l:=l) hl (ps:=ps) (by omega) (r:=r) (inv:=5) (t:=40) (B:=λp k a s=>mq (l.map (rX l)) p 40 5 m k a s) (λp k a s ha hs=>debt_K hc (by omega) Z p ha s hs) (C:=λk p s=>qX l (l.map (rX l)) 40 5 m k p s) (λk p s=>rfl)
  have hdl:(dA l ps r 5 40).length<=120:=by
   have h1:=Ah (λp=>l.flatMap λa=>dL l r 5 40 p a) 12 (λp=>by
    have:=Ah (λa=>dL l r 5 40 p a) 1 (λa=>R9 l r 5 40 p a) l
    omega) ps
   unfold dA
   omega
  obtain ⟨q,q1,J⟩:=sortD (dA l ps r 5 40) (by omega)
  have Y:iP q (dA l ps r 5 40)=some ():=CJ J.length_eq
  have hq:=J.length_eq
  rw [R,ob_,PL hc,ob_,a1,ob_]
  show ∃d:List Debt×Int,(fM (dA l ps r 5 40)).bind _=_/\_
  rw [q1,ob_,Y,ob_]
  exact⟨_,rfl,by simp only [];omega⟩
theorem Ms {l:List Alert} {n:Nat} (h:RAlerts l n) (I:n<=12) {ps:List Post} (o:RPosts ps):∃d,p9 l ps 10=some d/\d.1.length<=1000:=by
 have hc:=h.ca I
 have hl:=hc.len
 have B:=o.len
 have em:nQ 10=some 0:=by kernel_rfl
 obtain ⟨u,J,N⟩:=kS (body:=λk x s=>mD l (l.map (rX l)) 10 k x s) (λk s=>s.length<=k) (xs:=ps) (s:=[]) (by omega) (λk x s F hs=>by
  have M:k<ps.length:=(List.getElem?_eq_some_iff.1 F).1
  unfold mD
  rw [Qh hc,ob_]
  cases Tu l x.X x.Y 10 with
  | nil=>exact⟨s,rfl,by omega⟩
  | cons z r =>
   rw [decide_eq_true (by simp only [List.length_cons];omega),cond_true]
   show ∃L,((some z).bind λA=>_).bind _=_/\_
   rw [ob_,kW _ _ (by simp only [List.length_cons,List.length_nil];omega)]
   exact⟨_,rfl,by rw [List.length_append];simp;omega⟩) (by simp)
 unfold p9
 rw [R6 h (by omega) o,ob_,bne_self_eq_false,cond_false,em]
 simp only [ob_,bne_self_eq_false,cond_false]
 rw [PL hc,ob_,J]
 exact⟨_,rfl,by simp only [];omega⟩
theorem alertsStay (l:List Int):qi l=some true:=by
 obtain ⟨xs,R,a1,a2,a3⟩:=Nc 5 (by omega) ⟨l,0⟩ (b:=0) ⟨Int.le_refl _,Int.le_refl _⟩ (by decide)
 obtain ⟨ps,O,b1,J,b3⟩:=Oi R a3 (by omega)
 obtain ⟨F,s3,Z,L,c3⟩:=KC O b3 (by omega)
 have a2:RAlerts xs 5:=a2
 have h6:RAlerts xs 6:=⟨a2.right,a2.rise,a2.ids,by have:=a2.len;omega⟩
 have hl:=a2.len
 have W:=J.len
 have hrl:=L.2
 have hm:qK xs []=some (xs,0):=QB h6 (List.Sublist.refl _) (List.nil_sublist _) (λx hx => .inl hx)
 obtain ⟨k,k1,k2⟩:=PM L
 obtain ⟨d,d1,d2⟩:=Qq a2 (by omega) J L
 obtain ⟨c,Y,e2⟩:=Ms a2 (by omega) J
 have o:forL (List.range ((xs.length:Int)).toNat) () (λk x s=>jC (xs,0) k x s)=some (.go ()):=by
  obtain ⟨s,q1,_⟩:=NB (body:=λk x s=>jC (xs,0) k x s) (λ_ _=>True) (n:=xs.length) (s:=()) (by omega) (λk s h _=>by
   refine⟨(),?_,trivial⟩
   have X:xs[0+((k:Int)).toNat]? = some xs[k]:=by
    rw [show 0+((k:Int)).toNat=k by simp];exact List.getElem?_eq_getElem h
   have A:=(a2.right _ (List.getElem_mem h)).ga
   unfold jC
   simp only [zK (i:=(k:Int)) (xs:=xs) (by omega) (by omega),X,ob_,spS _ (by have:=A.rlen;omega:(xs[k]).Refs.length<=1000000),spR _ (by have:=A.alen;omega:(xs[k]).Areas.length<=1000000)]) trivial
  rw [show ((xs.length:Int)).toNat=xs.length by simp]
  exact q1
 obtain ⟨d',I,v2⟩:=Rf (⟨(⟨#[]⟩:ByteArray),(⟨#[]⟩:ByteArray),0,0⟩:Debt) (B:=λk x s=>jo k x s) (λk x s=>rfl) d.1 (by omega)
 have I:kG d.1=some d':=I
 obtain ⟨c',M,u2⟩:=Rf (⟨(⟨#[]⟩:ByteArray),(⟨#[]⟩:ByteArray)⟩:Pair_) (B:=λk x s=>jv k x s) (λk x s=>rfl) c.1 (by omega)
 have M:ku c.1=some c':=M
 have y1:bL xs xs=some true:=eqFn (B:=λk x s=>bg xs k x s) xs (by omega) (λk y h=>by
  have N:=Mr (a2.right y (List.mem_of_getElem? h))
  unfold bg
  simp only [wW,h,sameRA N N,decide_true,ob_,Bool.not_true,cond_false])
 have y2:gY ps ps=some true:=eqFn (B:=λk x s=>dQ ps k x s) ps (by omega) (λk y h=>by
  unfold dQ
  simp only [wW,h,ob_]
  simp)
 have y3:eH F F=some true:=eqFn (B:=λk x s=>cO F k x s) F (by omega) (λk y h=>by
  unfold cO
  simp only [wW,h,ob_]
  simp)
 unfold qi
 simp only [a1,b1,Z,hm,ob_,o,thenC,spA xs (by omega),k1,spRc k.1 (by omega),d1,I,v2,Y,M,u2,y1,y2,y3,cond_true,R5]
end Go.Proofs.YtadpbmfnnlkdlacGreatDoor.Law

