/-
  THE PLAIN LAW (part 2).
-/
import Derived.Test.YtacmlgpnplklaaaGreatDoorPl1
import Derived.Test.YtacmlgpnplklaaaGreatDoorDefs
open Go Go.Eng
namespace Go.Proofs.YtacmlgpnplklaaaGreatDoor.Law
set_option linter.unusedVariables false
set_option linter.unusedSimpArgs false
end Go.Proofs.YtacmlgpnplklaaaGreatDoor.Law

open Go Go.Eng
namespace Go.Proofs.YtacmlgpnplklaaaGreatDoor.Law
set_option linter.unusedVariables false
set_option linter.unusedSimpArgs false
end Go.Proofs.YtacmlgpnplklaaaGreatDoor.Law

open Go Go.Eng
namespace Go.Proofs.YtacmlgpnplklaaaGreatDoor.Law
set_option linter.unusedVariables false
set_option linter.unusedSimpArgs false
section
variable {is:Int->Int->Option Bool} {xs ys:List Int} {s13:(List Rect)×(List Rect)×Int} {y y2:Int} {j:Nat}
end
end Go.Proofs.YtacmlgpnplklaaaGreatDoor.Law

open Go Go.Eng
namespace Go.Proofs.YtacmlgpnplklaaaGreatDoor.Law
set_option linter.unusedVariables false
set_option linter.unusedSimpArgs false
end Go.Proofs.YtacmlgpnplklaaaGreatDoor.Law

open Go Go.Eng
namespace Go.Proofs.YtacmlgpnplklaaaGreatDoor.Law
set_option linter.unusedVariables false
set_option linter.unusedSimpArgs false
end Go.Proofs.YtacmlgpnplklaaaGreatDoor.Law

open Go Go.Eng
namespace Go.Proofs.YtacmlgpnplklaaaGreatDoor.Law
set_option linter.unusedVariables false
set_option linter.unusedSimpArgs false
def kZ (n lo hi:Int):Bool:=decide (n<lo)||decide (n>hi)
theorem sW (n lo hi:Int):fJ n lo hi=some (kZ n lo hi):=by
 unfold fJ kZ
 cases decide (n<lo) <;> cases decide (n>hi) <;> rfl
theorem I9 (n lo hi:Int):mG n lo hi=some (!kZ n lo hi):=by
 unfold mG kZ
 have e1:decide (lo<=n) = !decide (n<lo):=by rw [Bool.eq_iff_iff];simp
 have e2:decide (n<=hi) = !decide (n>hi):=by rw [Bool.eq_iff_iff];simp
 rw [e1,e2]
 cases decide (n<lo) <;> cases decide (n>hi) <;> rfl
theorem outB_f {n lo hi:Int} (h:kZ n lo hi=false):lo<=n/\n<=hi:=by
 simp only [kZ,Bool.or_eq_false_iff,decide_eq_false_iff_not]at h;omega
def Bo (r:Rect):Bool:=kZ r.X (-100000) 100000||kZ r.Y (-100000) 100000||kZ r.W 1 (w64 (100000-r.X))||kZ r.H 1 (w64 (100000-r.Y))
theorem BU (r:Rect):fP r=some (bif Bo r then 1 else 0):=by
 unfold fP Bo
 simp only [sW,ob_]
 cases kZ r.X (-100000) 100000 <;> cases kZ r.Y (-100000) 100000 <;> cases kZ r.W 1 (w64 (100000-r.X)) <;> cases kZ r.H 1 (w64 (100000-r.Y)) <;> rfl
theorem Cr (r:Rect):jN r=some (bif Bo r then 1 else 0):=by
 unfold jN Bo
 simp only [I9,ob_,Bool.not_not]
 cases kZ r.X (-100000) 100000 <;> cases kZ r.Y (-100000) 100000 <;> cases kZ r.W 1 (w64 (100000-r.X)) <;> cases kZ r.H 1 (w64 (100000-r.Y)) <;> rfl
end Go.Proofs.YtacmlgpnplklaaaGreatDoor.Law

open Go Go.Eng
namespace Go.Proofs.YtacmlgpnplklaaaGreatDoor.Law
set_option linter.unusedVariables false
set_option linter.unusedSimpArgs false
end Go.Proofs.YtacmlgpnplklaaaGreatDoor.Law

open Go Go.Eng
namespace Go.Proofs.YtacmlgpnplklaaaGreatDoor.Law
set_option linter.unusedVariables false
set_option linter.unusedSimpArgs false
def zG:ByteArray:=⟨#[]⟩
def sw {α:Type} (key:α->ByteArray) (l:List α) (k:Nat):ByteArray:=if k=0 then zG else match l[k-1]? with | some y=>key y | none=>zG
def chk {α:Type} (key:α->ByteArray) (stp:ByteArray->α->Int):ByteArray->List α->Int
 | _,[]=>0
 | last,x::xs=>bif stp last x==0 then chk key stp (key x) xs else stp last x
def G9 (e:Int):Ctl Unit Int:=bif e==0 then .go ()else .ret e
theorem DV {α:Type} {key:α->ByteArray} {stp:ByteArray->α->Int} {body:Nat->α->Unit->Option (Ctl Unit Int)} (l:List α):∀(xs:List α) (k:Nat),l.drop k=xs->(∀k x,l[k]? = some x->body k x ()=some (G9 (stp (sw key l k) x))) ->
  forR body xs k ()=some (G9 (chk key stp (sw key l k) xs))
 | [],k,h,hb=>rfl
 | x::xs,k,h,hb=>by
  have hg:=IK h
  rw [forR,hb k x hg,ob_,chk]
  cases he:stp (sw key l k) x==0 with
  | true =>
   simp only [G9,he,cond_true]
   rw [DV l xs (k+1) (bv h) hb]
   have:sw key l (k+1)=key x:=by simp [sw,hg]
   rw [this];rfl
  | false=>simp only [G9,he,cond_false]
theorem IJ {α:Type} {l:List α} {k:Nat} {x:α} (h:l[k]? = some x) (hk:0<k) (hl:l.length<=1000000000):∃y,idx l (w64 ((k:Int)-1))=some y/\l[k-1]? = some y:=by
 have hlt:k<l.length:=(List.getElem?_eq_some_iff.1 h).1
 rw [eT (by omega),show (k:Int)-1=((k-1:Nat):Int) by omega,Bl]
 exact⟨l[k-1],List.getElem?_eq_getElem (by omega),List.getElem?_eq_getElem (by omega)⟩
theorem Gv {α:Type} {key:α->ByteArray} {l:List α} {k:Nat} {x:α} {s:ByteArray} (h:l[k]? = some x) (hl:l.length<=1000000000) (hs:s.size≠0) :
  (bif decide ((k:Int)>0)then (idx l (w64 ((k:Int)-1))).bind λy=>some (sLe s (key y))else some false)=some (sLe s (sw key l k)):=by
 by_cases hk:0<k
 ·obtain ⟨y,h1,h2⟩:=IJ h hk hl
  have hd:decide ((k:Int)>0)=true:=by simp;omega
  simp only [hd,cond_true,h1,ob_,sw,if_neg (show ¬k=0 by omega),h2]
 ·have hk0:k=0:=by omega
  subst hk0
  simp only [sw,if_pos,zG,sLe_nil,decide_eq_false hs]
  rfl
theorem Ht {α:Type} {key:α->ByteArray} {stp:ByteArray->α->Int} {body:Nat->α->ByteArray->Option (Ctl ByteArray Int)}:∀(xs:List α) (k:Nat) (last:ByteArray),(∀k x last,x∈xs->body k x last=some (bif stp last x==0 then .go (key x)else .ret (stp last x))) ->
  ∃last',forR body xs k last=some (bif chk key stp last xs==0 then .go last' else .ret (chk key stp last xs))
 | [],k,last,hb=>⟨last,rfl⟩
 | x::xs,k,last,hb=>by
  rw [forR,hb k x last (by simp),ob_,chk]
  cases he:stp last x==0 with
  | true=>exact Ht xs (k+1) (key x) (λk y last hy=>hb k y last (by simp [hy]))
  | false =>
   refine⟨last,?_⟩
   simp only [cond_false,he]
def xy (n:Int):Bool:=kZ n 1 20000
theorem G7 (n:Int):jR n=some (!xy n):=by unfold jR;rw [sW];rfl
theorem Fw (n:Int):pG n=some (!xy n):=by unfold pG;rw [I9];rfl
theorem sides2 (a b:Int):gK [a,b]=some (bif xy a||xy b then 1 else 0):=by
 unfold gK
 rw [iR (by simp)]
 simp only [forR,gP,G7,ob_,Bool.not_not]
 cases xy a <;> cases xy b <;> rfl
def EL (r:Rect) (w h:Int):Bool:=decide (r.X>=0)&&(decide (r.Y>=0)&&(decide (w64 (r.X+r.W)<=w)&&decide (w64 (r.Y+r.H)<=h)))
theorem AA (r:Rect) (w h:Int):jK r w h=some (EL r w h):=by
 unfold jK EL
 cases decide (r.X>=0) <;> cases decide (r.Y>=0) <;> cases decide (w64 (r.X+r.W)<=w) <;> rfl
theorem GZ (r:Rect) (w h:Int):p8 r w h=some (EL r w h):=AA r w h
end Go.Proofs.YtacmlgpnplklaaaGreatDoor.Law

open Go Go.Eng
namespace Go.Proofs.YtacmlgpnplklaaaGreatDoor.Law
set_option linter.unusedVariables false
set_option linter.unusedSimpArgs false
def BQ (l:Layout) (last:ByteArray) (z:Zone):Int:=bif !tX z.Key then 5 else bif Bo z.On then 1 else bif !EL z.On l.W l.H then 3 else bif kZ z.Order 0 1000 then 1 else bif sLe z.Key last then 7 else 0
theorem Bb (l:Layout) (hk:l.Key.size<=1000) (hs:∀z∈l.Zones,z.Key.size<=1000) (hl:l.Zones.length<=30):∃e,dI l=some e/\fE l=some e /\
  (e=0->xy l.W=false/\xy l.H=false/\chk (λz=>z.Key) (BQ l) zG l.Zones=0):=by
 unfold dI fE
 rw [CF l.Key (by omega),Ak l.Key (by omega),sides2,Fw,Fw]
 simp only [ob_,Bool.not_not]
 cases tX l.Key with
 | false=>exact⟨5,rfl,rfl,λh=>by cases h⟩
 | true =>
  cases hW:xy l.W with
  | true=>exact⟨1,rfl,rfl,λh=>by cases h⟩
  | false =>
   cases hH:xy l.H with
   | true=>exact⟨1,rfl,rfl,λh=>by cases h⟩
   | false =>
    have hd:decide ((l.Zones.length:Int)>30)=false:=by simp;omega
    simp only [Bool.not_true,cond_false,cond_true,Bool.or_self,bne_self_eq_false,hd,ob_]
    have h1:=DV (key:=λz:Zone=>z.Key) (stp:=BQ l) (body:=λk x s=>eG l k x s) l.Zones l.Zones 0 rfl (λk x hx=>by
     have hxm:=List.mem_of_getElem? hx
     unfold eG BQ
     rw [CF _ (by have:=hs x hxm;omega),BU,AA,sW]
     simp only [ob_]
     cases hkey:tX x.Key with
     | false=>rfl
     | true =>
      have hne:x.Key.size≠0:=keyB_ne hkey
      rw [Gv (key:=λz:Zone=>z.Key) hx (by omega) hne]
      cases Bo x.On with
      | true=>rfl
      | false =>
       cases EL x.On l.W l.H with
       | false=>rfl
       | true =>
        cases kZ x.Order 0 1000 with
        | true=>rfl
        | false=>cases sLe x.Key (sw (λz:Zone=>z.Key) l.Zones k) <;> rfl)
    obtain ⟨last',h2⟩:=Ht (key:=λz:Zone=>z.Key) (stp:=BQ l) (body:=λk x s=>fZ l k x s) l.Zones 0 zG (λk x last hxm=>by
     unfold fZ BQ
     rw [Ak _ (by have:=hs x hxm;omega),Cr,GZ,I9]
     simp only [ob_,Bool.not_not]
     cases tX x.Key <;> cases Bo x.On <;> cases EL x.On l.W l.H <;> cases kZ x.Order 0 1000 <;> cases sLe x.Key last <;> rfl)
    have h0:sw (λz:Zone=>z.Key) l.Zones 0=zG:=rfl
    rw [h0]at h1
    rw [iR (by omega),h1,iR (xs:=l.Zones) (s:=(⟨#[]⟩:ByteArray)) (by omega)]
    rw [show (⟨#[]⟩:ByteArray)=zG from rfl,h2]
    cases hc:chk (λz:Zone=>z.Key) (BQ l) zG l.Zones==0 with
    | true =>
     refine⟨0,?_,?_,λ_=>⟨trivial,trivial,eq_of_beq hc⟩⟩
     ·simp only [G9,hc,cond_true,ob_,thenC]
     ·simp only [cond_true,ob_,thenC]
    | false =>
     refine⟨chk (λz:Zone=>z.Key) (BQ l) zG l.Zones,?_,?_,λe=>by rw [e]at hc;cases hc⟩
     ·simp only [G9,hc,cond_false,ob_,thenC]
     ·simp only [cond_false,ob_,thenC]
end Go.Proofs.YtacmlgpnplklaaaGreatDoor.Law

open Go Go.Eng
namespace Go.Proofs.YtacmlgpnplklaaaGreatDoor.Law
set_option linter.unusedVariables false
set_option linter.unusedSimpArgs false
def nums (l:List UInt8):List Int:=l.map λb=>(b.toNat:Int)
theorem Ec (l:List UInt8):Go.strOfNums (nums l)=SB l:=by
 unfold Go.strOfNums nums
 rw [List.map_map]
 have:(l.map ((λn:Int=>UInt8.ofNat n.toNat) ∘ λb:UInt8=>(b.toNat:Int)))=l:=by
  have:((λn:Int=>UInt8.ofNat n.toNat) ∘ λb:UInt8=>(b.toNat:Int))=id:=by
   funext b;simp
  rw [this,List.map_id]
 rw [this]
theorem Aa (a z:List UInt8) (h:a.length+z.length<=1000000000):GQ (nums a) (SB z)=some (nums (a++z)):=by
 unfold GQ
 have e:aP (SB z)=nums z:=rfl
 rw [if_pos (by rw [fD];unfold nums;rw [List.length_map];exact h),e]
 unfold nums
 rw [List.map_append]
theorem Ct (a:List UInt8) (h:a.length<=1000000000):vY (nums a)=some (SB a):=by
 unfold vY
 rw [if_pos ⟨by unfold nums;rw [List.length_map];exact h,by
  unfold nums
  rw [List.all_map,List.all_eq_true]
  intro b _
  have:=b.toNat_lt
  show (decide (0<=(b.toNat:Int))&&decide ((b.toNat:Int)<=255))=true
  rw [decide_eq_true (by omega),decide_eq_true (by omega)];rfl⟩,Ec]
theorem nT (a b:List UInt8) (h:a.length+b.length<=1000000000):kS (SB a) (SB b)=some (SB (a++b)):=by
 rw [uX (by rw [fD,fD];omega),sb_app]
theorem Cq (l:List UInt8) (a b:Nat) (h1:a<=b) (h2:b<=l.length):lc (SB l) (a:Int) (b:Int)=some (SB ((l.take b).drop a)):=by
 unfold lc
 rw [if_pos (by rw [fD];omega),Int.toNat_natCast,Int.toNat_natCast]
 congr 1
 apply ByteArray.ext
 apply Array.ext'
 rw [ByteArray.data_extract,Array.toList_extract]
 show l.extract a b=(l.take b).drop a
 rw [List.drop_take]
theorem FY {α:Type} {key:α->ByteArray} {stp:ByteArray->α->Int}:∀(l:List α) (last:ByteArray),chk key stp last l=0->∀x∈l,∃q,stp q x=0
 | [],_,_=>λx hx=>by cases hx
 | y::l,last,h=>λx hx=>by
  unfold chk at h
  cases hs:stp last y==0 with
  | false=>rw [hs,cond_false]at h;rw [h]at hs;cases hs
  | true =>
   rw [hs,cond_true]at h
   rcases List.mem_cons.1 hx with rfl|hx
   ·exact⟨last,by simpa using hs⟩
   ·exact FY l _ h x hx
def xB:List UInt8:=[108,97,121,111,117,116]
def xh:List UInt8:=[122,111,110,101]
def headW (l:Layout):List (List UInt8):=[xB,l.Key.data.toList]++([l.W,l.H].map Lib.itoa)
def zoneW (z:Zone):List (List UInt8):=[xh,z.Key.data.toList]++([z.On.X,z.On.Y,z.On.W,z.On.H,z.Order].map Lib.itoa)
def Ai (l:Layout):List UInt8:=Lib.join (headW l) [32]
def uB (z:Zone):List UInt8:=Lib.join (zoneW z) [32]
def mI (zs:List Zone):List UInt8:=zs.flatMap λz=>uB z++[10]
def zu (l:Layout):List UInt8:=Ai l++[10]++mI l.Zones
theorem l6 (z:Zone) (zs:List Zone):mI (z::zs)=uB z++[10]++mI zs:=by unfold mI;rw [List.flatMap_cons]
def qJ (z:Zone):Prop:=z.Key.size<=5000/\∀n ∈ [z.On.X,z.On.Y,z.On.W,z.On.H,z.Order],Med n
def yY (l:Layout):Prop:=l.Key.size<=5000/\∀n ∈ [l.W,l.H],Med n
theorem uR (z:Zone):uB z=xh++[32]++z.Key.data.toList++[32]++Lib.join ([z.On.X,z.On.Y,z.On.W,z.On.H,z.Order].map Lib.itoa) [32]:=by
 unfold uB zoneW
 simp only [List.map_cons,List.map_nil,List.cons_append,List.nil_append,Lib.join_cons,ny,Ao,List.append_assoc,List.append_nil]
theorem uG (l:Layout):Ai l=xB++[32]++l.Key.data.toList++[32]++Lib.join ([l.W,l.H].map Lib.itoa) [32]:=by
 unfold Ai headW
 simp only [List.map_cons,List.map_nil,List.cons_append,List.nil_append,Lib.join_cons,ny,Ao,List.append_assoc,List.append_nil]
theorem Gy (a:List UInt8) (n:Int) (ns:List Int):a++((n::ns).flatMap λn=>32::Lib.itoa n)=a++[32]++Lib.join ((n::ns).map Lib.itoa) [32]:=by
 rw [List.map_cons,Lib.join_cons,List.flatMap_cons]
 have:∀ns:List Int,(ns.flatMap λn=>32::Lib.itoa n)=Lib.joinTail [32] (ns.map Lib.itoa):=by
  intro ns
  induction ns with
  | nil=>rfl
  | cons m ns ih=>rw [List.flatMap_cons,List.map_cons,ny,ih];simp
 rw [this];simp
theorem rA {z:Zone} (h:qJ z):(uB z).length<=5200:=by
 have:=pQ [32] 21 ([z.On.X,z.On.Y,z.On.W,z.On.H,z.Order].map Lib.itoa) (λx hx=>by
  obtain ⟨n,hn,rfl⟩:=List.mem_map.1 hx
  exact oW (h.2 n hn))
 have k:=h.1
 rw [Lib.size_eq]at k
 rw [uR]
 simp only [List.length_append,List.length_map,List.length_cons,List.length_nil,xh]at *
 omega
theorem zZ {l:Layout} (h:yY l):(Ai l).length<=5200:=by
 have:=pQ [32] 21 ([l.W,l.H].map Lib.itoa) (λx hx=>by
  obtain ⟨n,hn,rfl⟩:=List.mem_map.1 hx
  exact oW (h.2 n hn))
 have k:=h.1
 rw [Lib.size_eq]at k
 rw [uG]
 simp only [List.length_append,List.length_map,List.length_cons,List.length_nil,xB]at *
 omega
theorem pK:∀(zs:List Zone) (m:Nat),(∀z∈zs,(uB z).length<=m)->(mI zs).length<=zs.length*(m+1)
 | [],_,_=>by simp [mI]
 | z::zs,m,h=>by
  have h1:=h z (by simp)
  have h2:=pK zs m (λx hx=>h x (List.mem_cons_of_mem _ hx))
  rw [l6,List.length_append,List.length_append]
  simp only [List.length_cons,List.length_nil,Nat.succ_mul]
  omega
theorem CK:∀(zs:List Zone) (k:Nat) (acc:List UInt8),(∀z∈zs,qJ z)->acc.length+(mI zs).length<=1000000->forR (λk x s=>eO k x s) zs k (SB acc)=some (.go (SB (acc++mI zs)))
 | [],k,acc,h,hl=>by
  rw [show mI []=[] from rfl,List.append_nil];rfl
 | z::zs,k,acc,h,hl=>by
  have hz:=h z (by simp)
  have hk:=hz.1
  rw [Lib.size_eq]at hk
  have hn:=yM [z.On.X,z.On.Y,z.On.W,z.On.H,z.Order] hz.2 (by simp)
  have hlen:=rA hz
  rw [l6,List.length_append,List.length_append]at hl
  have hj:=pQ [32] 21 ([z.On.X,z.On.Y,z.On.W,z.On.H,z.Order].map Lib.itoa) (λx hx=>by
   obtain ⟨n,hn,rfl⟩:=List.mem_map.1 hx
   exact oW (hz.2 n hn))
  simp only [List.length_map,List.length_cons,List.length_nil]at hl hj
  have hstep:eO k z (SB acc)=some (.go (SB (acc++(uB z++[10])))):=by
   unfold eO
   rw [show (⟨#[122,111,110,101,32]⟩:ByteArray)=SB (xh++[32]) from rfl,show z.Key=SB z.Key.data.toList from rfl,show (⟨#[32]⟩:ByteArray)=SB [32] from rfl,show (⟨#[10]⟩:ByteArray)=SB [10] from rfl,
    nT _ _ (by simp only [xh,List.length_append,List.length_cons,List.length_nil];omega),ob_,nT _ _ (by simp only [xh,List.length_append,List.length_cons,List.length_nil];omega),ob_,hn,ob_,
    nT _ _ (by simp only [xh,List.length_append,List.length_cons,List.length_nil];omega),ob_,<- uR,nT _ _ (by simp only [List.length_cons,List.length_nil];omega),ob_,nT _ _ (by simp only [List.length_append,List.length_cons,List.length_nil];omega),ob_]
  rw [forR,hstep,ob_]
  simp only []
  rw [CK zs (k+1) _ (λy hy=>h y (List.mem_cons_of_mem _ hy)) (by simp only [List.length_append,List.length_cons,List.length_nil];omega),l6]
  simp
theorem wJ {l:Layout} (h:yY l) (hz:∀z∈l.Zones,qJ z) (hl:l.Zones.length<=100):fF l=some (SB (zu l)):=by
 have hk:=h.1
 rw [Lib.size_eq]at hk
 have hn:=yM [l.W,l.H] h.2 (by simp)
 have hlen:=zZ h
 have hzl:=pK l.Zones 5200 (λz hm=>rA (hz z hm))
 have:l.Zones.length*(5200+1)<=100*5201:=Nat.mul_le_mul_right _ hl
 have hj:=pQ [32] 21 ([l.W,l.H].map Lib.itoa) (λx hx=>by
  obtain ⟨n,hn,rfl⟩:=List.mem_map.1 hx
  exact oW (h.2 n hn))
 simp only [List.length_map,List.length_cons,List.length_nil]at hj
 have hrun:=CK l.Zones 0 (Ai l++[10]) hz (by simp only [List.length_append,List.length_cons,List.length_nil];omega)
 unfold fF
 rw [show (⟨#[108,97,121,111,117,116,32]⟩:ByteArray)=SB (xB++[32]) from rfl,show l.Key=SB l.Key.data.toList from rfl,show (⟨#[32]⟩:ByteArray)=SB [32] from rfl,show (⟨#[10]⟩:ByteArray)=SB [10] from rfl,
  nT _ _ (by simp only [xB,List.length_append,List.length_cons,List.length_nil];omega),ob_,nT _ _ (by simp only [xB,List.length_append,List.length_cons,List.length_nil];omega),ob_,hn,ob_,
  nT _ _ (by simp only [xB,List.length_append,List.length_cons,List.length_nil];omega),ob_,<- uG,nT _ _ (by simp only [List.length_cons,List.length_nil];omega),ob_,iR (by omega),hrun]
 rfl
theorem Ac:∀(ns:List Int) (k:Nat) (a:List UInt8),(∀n∈ns,Med n)->a.length+ns.length*30<=900000->forR (λk x s=>gD k x s) ns k (SB a)=some (.go (SB (a++ns.flatMap λn=>32::Lib.itoa n)))
 | [],k,a,_,_=>by simp [forR]
 | n::ns,k,a,h,ho=>by
  simp only [List.length_cons]at ho
  have hl:=oW (h n (by simp))
  have hstep:gD k n (SB a)=some (.go (SB (a++32::Lib.itoa n))):=by
   unfold gD
   rw [Bv (h n (by simp)),ob_,show (⟨#[32]⟩:ByteArray)=SB [32] from rfl,nT _ _ (by simp only [List.length_cons,List.length_nil];omega),ob_,
    nT _ _ (by simp only [List.length_append,List.length_cons,List.length_nil];omega)];rfl
  rw [forR,hstep,ob_]
  simp only []
  rw [Ac ns (k+1) _ (λm hm=>h m (List.mem_cons_of_mem _ hm)) (by simp only [List.length_append,List.length_cons];omega)]
  simp
theorem Ea (a:List UInt8) (n:Int) (ns:List Int) (h:∀m∈n::ns,Med m) (ha:a.length<=10000) (hl:ns.length<=100):jC (SB a) (n::ns)=some (SB (a++[32]++Lib.join ((n::ns).map Lib.itoa) [32])):=by
 unfold jC
 rw [iR (by simp only [List.length_cons];omega),Ac (n::ns) 0 a h (by simp only [List.length_cons];omega),ob_,qZ,Gy]
theorem AB:∀(zs:List Zone) (k:Nat) (a:List UInt8),(∀z∈zs,qJ z)->a.length+(mI zs).length<=1000000->forR (λk x s=>iG k x s) zs k (nums a)=some (.go (nums (a++mI zs)))
 | [],k,a,_,_=>by simp [mI,forR]
 | z::zs,k,a,h,hl=>by
  have hz:=h z (by simp)
  have hk:=hz.1
  rw [Lib.size_eq]at hk
  have hlen:=rA hz
  rw [l6,List.length_append,List.length_append]at hl
  simp only [List.length_cons,List.length_nil]at hl
  have hstep:iG k z (nums a)=some (.go (nums (a++(uB z++[10])))):=by
   unfold iG
   rw [show (⟨#[122,111,110,101,32]⟩:ByteArray)=SB (xh++[32]) from rfl,show z.Key=SB z.Key.data.toList from rfl,show (⟨#[10]⟩:ByteArray)=SB [10] from rfl,
    nT _ _ (by simp only [xh,List.length_append,List.length_cons,List.length_nil];omega),ob_,Ea _ _ _ hz.2 (by simp only [xh,List.length_append,List.length_cons,List.length_nil];omega) (by simp),ob_,<- uR,
    nT _ _ (by simp only [List.length_cons,List.length_nil];omega),ob_,Aa _ _ (by simp only [List.length_append,List.length_cons,List.length_nil];omega)];rfl
  rw [forR,hstep,ob_]
  simp only []
  rw [AB zs (k+1) _ (λy hy=>h y (List.mem_cons_of_mem _ hy)) (by simp only [List.length_append,List.length_cons,List.length_nil];omega),l6]
  simp
theorem text_eq {l:Layout} (h:yY l) (hz:∀z∈l.Zones,qJ z) (hl:l.Zones.length<=100) (hc:dI l=some 0):je l=some (SB (zu l),0):=by
 have hk:=h.1
 rw [Lib.size_eq]at hk
 have hlen:=zZ h
 have hzl:=pK l.Zones 5200 (λz hm=>rA (hz z hm))
 have:l.Zones.length*(5200+1)<=100*5201:=Nat.mul_le_mul_right _ hl
 have hrun:=AB l.Zones 0 (Ai l++[10]) hz (by simp only [List.length_append,List.length_cons,List.length_nil];omega)
 unfold je
 rw [hc,ob_,bne_self_eq_false,cond_false,show (⟨#[108,97,121,111,117,116,32]⟩:ByteArray)=SB (xB++[32]) from rfl,show l.Key=SB l.Key.data.toList from rfl,show (⟨#[10]⟩:ByteArray)=SB [10] from rfl,
  nT _ _ (by simp only [xB,List.length_append,List.length_cons,List.length_nil];omega),ob_,Ea _ _ _ h.2 (by simp only [xB,List.length_append,List.length_cons,List.length_nil];omega) (by simp),ob_,<- uG,
  nT _ _ (by simp only [List.length_cons,List.length_nil];omega),ob_,show ([]:List Int)=nums [] from rfl,Aa _ _ (by simp only [List.length_append,List.length_cons,List.length_nil];omega),ob_,List.nil_append,iR (by omega),hrun,ob_,qZ,
  Ct _ (by simp only [List.length_append,List.length_cons,List.length_nil];omega)]
 rfl
theorem Dy {l:Layout} (hk:l.Key.size<=1000) (hs:∀z∈l.Zones,z.Key.size<=1000) (h1:xy l.W=false) (h2:xy l.H=false) (h3:chk (λz=>z.Key) (BQ l) zG l.Zones=0):yY l/\∀z∈l.Zones,qJ z:=by
 have o:∀{n lo hi:Int},kZ n lo hi=false->lo<=n/\n<=hi:=λh=>outB_f h
 have b1:=o h1
 have b2:=o h2
 refine⟨⟨by omega,λn hn => ?_⟩,λz hz=>⟨by have:=hs z hz;omega,λn hn => ?_⟩⟩
 ·simp only [List.mem_cons,List.not_mem_nil,or_false]at hn
  unfold Med
  rcases hn with rfl|rfl <;> omega
 ·obtain ⟨q,hq⟩:=FY _ _ h3 z hz
  unfold BQ at hq
  cases hk:tX z.Key with
  | false=>rw [hk]at hq;cases hq
  | true =>
   cases hb:Bo z.On with
   | true=>rw [hk,hb]at hq;cases hq
   | false =>
    cases hi:EL z.On l.W l.H with
    | false=>rw [hk,hb,hi]at hq;cases hq
    | true =>
     cases ho:kZ z.Order 0 1000 with
     | true=>rw [hk,hb,hi,ho]at hq;cases hq
     | false =>
      unfold Bo at hb
      simp only [Bool.or_eq_false_iff]at hb
      obtain ⟨c1,c2,c3,c4⟩:(kZ z.On.X (-100000) 100000=false)/\(kZ z.On.Y (-100000) 100000=false)/\(kZ z.On.W 1 (w64 (100000-z.On.X))=false)/\(kZ z.On.H 1 (w64 (100000-z.On.Y))=false):=by
       refine⟨?_,?_,?_,?_⟩ <;> simp_all
      have d1:=o c1
      have d2:=o c2
      rw [eT (by omega)]at c3 c4
      have d3:=o c3
      have d4:=o c4
      have d5:=o ho
      simp only [List.mem_cons,List.not_mem_nil,or_false]at hn
      unfold Med
      rcases hn with rfl|rfl|rfl|rfl|rfl <;> omega
end Go.Proofs.YtacmlgpnplklaaaGreatDoor.Law

