/-
  THE PLAIN LAW (part 4).
-/
import Derived.Test.YtdpginbnipklcaaGreatDoorPl3
open Go Go.Eng
namespace Go.Proofs.YtdpginbnipklcaaGreatDoor.Law
set_option linter.unusedVariables false
set_option linter.unusedSimpArgs false
theorem sNe_sym (a b:ByteArray):sNe a b=sNe b a:=by
 rw [vO,vO,decide_eq_decide.2 (Eq.comm)]
theorem BK {l:List Log_} {j:Nat} (h:j<l.length) (hl:l.length<=1000):idx l (w64 (((j+1:Nat):Int)-1))=some (l[j]'h):=by
 rw [bG (by omega),show (((j+1:Nat):Int)-1)=(j:Int) by omega,nH,List.getElem?_eq_getElem h]
theorem EK {l:List Log_} (hl:l.length<=1000) (hg:∀x∈l,GoodL x) (k:Nat) (x:Log_) (s:List Int) (hx:l[k]? = some x) (hs:s.length<=k) :
  ∃s',kw l k x s=some (.go s')/\kz l k x s=some (.go s')/\s'.length<=k+1:=by
 have hlt:=(List.getElem?_eq_some_iff.1 hx).1
 have hm:=List.mem_of_getElem? hx
 have hgx:=hg x hm
 have happ:nC s ([(k:Int)]:List Int)=some (s++[(k:Int)]):=oW _ _ (by simp only [List.length_cons,List.length_nil];omega)
 have tail:∀(last:ByteArray),iR last->∃s',((mO last x).bind λr_40=>(bif (sNe r_40 x.Sum)then (nC s ([(k:Int)]:List Int)).bind λa_46=>some a_46 else some s).bind λv_42=>some (Ctl.go v_42:Ctl (List Int) Unit))=some (.go s')/\(((lY last x).bind λr_32=>some (sNe x.Sum r_32)).bind λv_29=>(bif v_29 then (nC s ([(k:Int)]:List Int)).bind λa_38=>some a_38 else some s).bind λv_34=>some (Ctl.go v_34:Ctl (List Int) Unit))=some (.go s')/\s'.length<=k+1:=by
  intro last hls
  rw [sumP last hls hgx,sumR last hls hgx]
  simp only [ob_]
  rw [sNe_sym x.Sum]
  cases sNe (sumM last x) x.Sum with
  | true=>exact⟨s++[(k:Int)],by simp only [cond_true,happ,ob_],by simp only [cond_true,happ,ob_],by rw [List.length_append];simp only [List.length_cons,List.length_nil];omega⟩
  | false=>exact⟨s,by simp only [cond_false,ob_],by simp only [cond_false,ob_],by omega⟩
 have fall:∃s',(bif (x.No != 1)then some (Ctl.go s:Ctl (List Int) Unit)else (mO (⟨#[]⟩:ByteArray) x).bind λr_40=>(bif (sNe r_40 x.Sum)then (nC s ([(k:Int)]:List Int)).bind λa_46=>some a_46 else some s).bind λv_42=>some (Ctl.go v_42:Ctl (List Int) Unit))=some (.go s')/\((bif (x.No==1)then (lY (⟨#[]⟩:ByteArray) x).bind λr_32=>some (sNe x.Sum r_32)else some false).bind λv_29=>(bif v_29 then (nC s ([(k:Int)]:List Int)).bind λa_38=>some a_38 else some s).bind λv_34=>some (Ctl.go v_34:Ctl (List Int) Unit))=some (.go s')/\s'.length<=k+1:=by
  by_cases hn:x.No=1
  ·rw [show (x.No != 1)=false by rw [hn];rfl,show (x.No==1)=true by rw [hn];rfl,cond_false,cond_true]
   exact tail _ (jf rfl)
  ·rw [show (x.No != 1)=true by simp [hn],show (x.No==1)=false by simp [hn],cond_false,cond_true]
   exact⟨s,rfl,by simp only [ob_,cond_false],by omega⟩
 unfold kw kz
 by_cases hk:k=0
 ·subst hk
  simp only [decide_eq_false (show ¬((0:Nat):Int)>0 by omega),cond_false,ob_]
  exact fall
 ·obtain ⟨j,rfl⟩:∃j,k=j+1:=⟨k-1,by omega⟩
  have hj:j<l.length:=by omega
  have hi:=BK hj hl
  have hgy:=hg _ (List.getElem_mem hj)
  generalize l[j]'hj=y at hi hgy
  have n1:=hgy.2.2.2.1
  have n2:=hgx.2.2.2.1
  unfold Med at n1 n2
  have e2:(w64 (y.No+1)==x.No)=(y.No==w64 (x.No-1)):=by
   rw [bG (by omega),bG (by omega),Bool.eq_iff_iff,beq_iff_eq,beq_iff_eq];omega
  simp only [decide_eq_true (show ((j+1:Nat):Int)>0 by omega),cond_true,hi,ob_,e2]
  cases sEq y.Player x.Player with
  | false =>
   simp only [cond_false,ob_]
   exact fall
  | true =>
   cases (y.No==w64 (x.No-1))with
   | false =>
    simp only [cond_true,cond_false,ob_]
    exact fall
   | true =>
    simp only [cond_true,ob_]
    exact tail _ hgy.2.2.1
theorem broken2 {l:List Log_} (hl:l.length<=1000) (hg:∀x∈l,GoodL x) (hf:dR l=0):∃r,lq l=some (r,0)/\lZ l=some r/\r.length<=1000:=by
 obtain ⟨r,h1,h2,h3⟩:=Jq (b1:=λk x s=>kw l k x s) (b2:=λk x s=>kz l k x s) (List.length:List Int->Nat) l (λk x s hx hs=>EK hl hg k x s hx hs) l 0 ([]:List Int) rfl (Nat.le_refl _)
 refine⟨r,?_,?_,by omega⟩
 ·unfold lq
  rw [xW l hg (by omega),ob_,hf,bne_self_eq_false,cond_false,iX (by omega),h1,ob_,jd]
 ·unfold lZ
  rw [iX (by omega),h2,ob_,jd]
theorem CV {l:List Log_} (hl:l.length<=1000) (k:Nat) (x:Log_) (s:List Log_) (hx:l[k]? = some x) (hs:s.length<=k) :
  ∃s',iM l k x s=some (.go s')/\jT l k x s=some (.go s')/\s'.length<=k+1:=by
 have hlt:=(List.getElem?_eq_some_iff.1 hx).1
 have e:jT l k x s=iM l k x s:=rfl
 rw [e]
 have happ:∀y:Log_,nC s [y]=some (s++[y]):=λy=>oW _ _ (by simp only [List.length_cons,List.length_nil];omega)
 have key:∃s',iM l k x s=some (.go s')/\s'.length<=k+1:=by
  obtain ⟨v,hv⟩:∃v:Bool,(bif (decide ((k:Int)>0))then (idx l (w64 ((k:Int)-1))).bind λy_22=>some (sEq y_22.Player x.Player)else some false)=some v/\(v=true->0<k):=by
   by_cases hk:k=0
   ·subst hk;exact⟨false,by rw [decide_eq_false (by omega)];rfl,λh=>by cases h⟩
   ·obtain ⟨j,rfl⟩:∃j,k=j+1:=⟨k-1,by omega⟩
    have hj:j<l.length:=by omega
    exact⟨sEq (l[j]'hj).Player x.Player,by rw [decide_eq_true (by omega),cond_true,BK hj hl,ob_],λ_=>by omega⟩
  obtain ⟨n,hn⟩:∃n:Int,(bif v then (idx l (w64 ((k:Int)-1))).bind λy_27=>some (w64 (y_27.No+1))else some 1)=some n:=by
   cases hc:v with
   | false=>exact⟨1,rfl⟩
   | true =>
    obtain ⟨j,rfl⟩:∃j,k=j+1:=⟨k-1,by have:=hv.2 hc;omega⟩
    have hj:j<l.length:=by omega
    exact⟨w64 ((l[j]'hj).No+1),by rw [cond_true,BK hj hl,ob_]⟩
  unfold iM
  rw [hv.1,ob_,hn,ob_]
  cases decide (x.No>n)with
  | false=>exact⟨s,rfl,by omega⟩
  | true=>exact⟨s++[(⟨x.Player,⟨#[]⟩,n,0,w64 (x.No-n),⟨#[]⟩⟩:Log_)],by simp only [cond_true,happ,ob_],by rw [List.length_append];simp only [List.length_cons,List.length_nil];omega⟩
 obtain ⟨s',h1,h2⟩:=key
 exact⟨s',h1,h1,h2⟩
theorem Jg {l:List Log_} (hl:l.length<=1000) (hg:∀x∈l,GoodL x) (hf:dR l=0):∃r,kF l=some (r,0)/\lG l=some r/\r.length<=1000:=by
 obtain ⟨r,h1,h2,h3⟩:=Jq (b1:=λk x s=>iM l k x s) (b2:=λk x s=>jT l k x s) (List.length:List Log_->Nat) l (λk x s hx hs=>CV hl k x s hx hs) l 0 ([]:List Log_) rfl (Nat.le_refl _)
 refine⟨r,?_,?_,by omega⟩
 ·unfold kF
  rw [xW l hg (by omega),ob_,hf,bne_self_eq_false,cond_false,iX (by omega),h1,ob_,jd]
 ·unfold lG
  rw [iX (by omega),h2,ob_,jd]
def r9:List Log_->Bool
 | x::y::l=>(cmpL x y==0)||r9 (y::l)
 | _=>false
theorem confP (r:List Log_) (hr:r.length<=1000):∀(t:List Log_) (x:Log_) (j:Nat),r.drop j=x::t->∃i,iZ (λs=>jw r s) (t.length+1) ((j+1:Nat):Int)=some (bif r9 (x::t)then .ret (([]:List Log_),13)else .go i)
 | [],x,j,hd=>by
  have hlen:r.length=j+1:=by
   have:=congrArg List.length hd
   rw [List.length_drop]at this
   simp only [List.length_cons,List.length_nil]at this;omega
  refine⟨((j+1:Nat):Int),?_⟩
  have:¬((j+1:Nat):Int)<(r.length:Int):=by omega
  simp only [List.length_nil,iZ,jw,decide_eq_false this,cond_false,ob_,r9]
 | y::t,x,j,hd=>by
  have hx:=qK hd
  have hd2:=bR hd
  have hy:=qK hd2
  have hlt:=(List.getElem?_eq_some_iff.1 hy).1
  obtain ⟨i,hi⟩:=confP r hr t y (j+1) hd2
  have h1:idx r (w64 (((j+1:Nat):Int)-1))=some x:=by
   rw [bG (by omega),show (((j+1:Nat):Int)-1)=(j:Int) by omega,nH,hx]
  have h2:idx r ((j+1:Nat):Int)=some y:=by rw [nH,hy]
  have h3:w64 (((j+1:Nat):Int)+1)=((j+1+1:Nat):Int):=by rw [bG (by omega)];omega
  have hs:jw r ((j+1:Nat):Int)=some (bif (cmpL x y==0)then .ret (([]:List Log_),13)else .go ((j+1+1:Nat):Int)):=by
   unfold jw
   rw [decide_eq_true (by omega),cond_true,h1,ob_,h2,ob_,p8,ob_,h3]
   cases (cmpL x y==0) <;> rfl
  rw [List.length_cons,iZ,hs,ob_,r9]
  cases (cmpL x y==0)with
  | true=>exact⟨0,rfl⟩
  | false=>exact⟨i,hi⟩
theorem confR (r:List Log_) (hr:r.length<=1000) (hg:∀x∈r,GoodL x):∀(t:List Log_) (x:Log_) (j:Nat),r.drop j=x::t->jU (λk x s=>jv r k x s) t (j+1) ()=some (bif r9 (x::t)then .ret (([]:List Log_),13)else .go ())
 | [],x,j,hd=>rfl
 | y::t,x,j,hd=>by
  have hx:=qK hd
  have hd2:=bR hd
  have hy:=qK hd2
  have hlt:=(List.getElem?_eq_some_iff.1 hy).1
  have h1:idx r (w64 (((j+1:Nat):Int)-1))=some x:=by
   rw [bG (by omega),show (((j+1:Nat):Int)-1)=(j:Int) by omega,nH,hx]
  have hs:jv r (j+1) y ()=some (bif (cmpL x y==0)then .ret (([]:List Log_),13)else .go ()):=by
   unfold jv
   rw [decide_eq_true (by omega),cond_true,h1,ob_,sN (hg x (List.mem_of_getElem? hx)) (hg y (List.mem_of_getElem? hy)),ob_,ob_]
   cases (cmpL x y==0) <;> rfl
  rw [jU,hs,ob_,r9]
  cases (cmpL x y==0)with
  | true=>rfl
  | false=>exact confR r hr hg t y (j+1) hd2
theorem conf2 (r:List Log_) (hr:r.length<=1000) (hg:∀x∈r,GoodL x):∃i,bn 1 (λs=>jw r s)=some (bif r9 r then .ret (([]:List Log_),13)else .go i)/\l9 r () (λk x s=>jv r k x s)=some (bif r9 r then .ret (([]:List Log_),13)else .go ()):=by
 cases hr0:r with
 | nil =>
  refine⟨1,j6 (n:=1) ?_,rfl⟩
  rfl
 | cons x t =>
  rw [<- hr0]
  obtain ⟨i,hi⟩:=confP r hr t x 0 hr0
  refine⟨i,?_,?_⟩
  ·have:=j6 hi
   rw [<- hr0]at this
   exact this
  ·have hc:=confR r hr hg t x 0 hr0
   rw [iX (by omega)]
   conv=>lhs;rw [hr0]
   have h0:jv r 0 x ()=some (.go ()):=by
    unfold jv
    rw [decide_eq_false (by omega)];rfl
   rw [jU]
   rw [<- hr0,h0,ob_,hr0]
   rw [<- hr0]
   simp only []
   rw [hc,hr0]
theorem merge2 {a b:List Log_} (la:a.length<=12) (lb:b.length<=12) (ga:∀x∈a,GoodL x) (gb:∀x∈b,GoodL x) (fa:dR a=0) (fb:dR b=0):∃r,lg a b=some r/\nS a b=some r/\r.1.length<=1000:=by
 have gab:∀x∈a++b,GoodL x:=λx hx=>(List.mem_append.1 hx).elim (ga x) (gb x)
 have lab:(a++b).length<=24:=by rw [List.length_append];omega
 obtain ⟨r,h1,h2,h3⟩:=stb24 (c1:=bv) (c2:=bU) (p:=GoodL) (λx y hx hy=>⟨cmpL x y,p8 x y,sN hx hy⟩) (a++b) gab lab
 have e1:fP (a++b) ((a++b).length:Int)=some r:=h1
 have e2:fQ (a++b) ((a++b).length:Int)=some r:=h2
 have hsl:dn r (a++b)=some ():=jX h3.length_eq
 have hs1:bP (a++b)=some r:=by
  unfold bP
  rw [e1,ob_,hsl];rfl
 have hs2:bO (a++b)=some r:=by
  unfold bO
  rw [e2,ob_,hsl];rfl
 have hrl:r.length<=24:=by rw [h3.length_eq];exact lab
 have hcp:bS r=some (ddG wy r):=by
  have h1:bS r=IV wy (⟨(⟨#[]⟩:ByteArray),(⟨#[]⟩:ByteArray),0,0,0,(⟨#[]⟩:ByteArray)⟩:Log_) r:=rfl
  rw [h1,Iu _ Di _ (by omega)]
 have hdl:(ddG wy r).length<=24:=Nat.le_trans (Gq r) hrl
 have hdg:∀x∈ddG wy r,GoodL x:=λx hx=>gab x (h3.mem_iff.1 ((Cu Di x r).1 hx))
 obtain ⟨i,k1,k2⟩:=conf2 (ddG wy r) (by omega) hdg
 have e0:l9 (List.range (2:Int).toNat) () (λk x s=>dK a b k x s)=some (.go ()):=by
  rw [iX (by simp)]
  have q0:∀x,dK a b 0 x ()=some (.go ()):=λx=>by
   unfold dK
   rw [show idx ([a,b]:List (List Log_)) ((0:Nat):Int)=some a from rfl,ob_,xW a ga (by omega),fa];rfl
  have q1:∀x,dK a b (0+1) x ()=some (.go ()):=λx=>by
   unfold dK
   rw [show idx ([a,b]:List (List Log_)) ((0+1:Nat):Int)=some b from rfl,ob_,xW b gb (by omega),fb];rfl
  rw [show List.range (2:Int).toNat=[0,1] from rfl]
  simp only [jU,q0,q1,ob_]
 have hbig:decide (((ddG wy r).length:Int)>2000)=false:=decide_eq_false (by omega)
 refine⟨bif r9 (ddG wy r)then (([]:List Log_),13)else (ddG wy r,0),?_,?_,?_⟩
 ·unfold lg
  rw [e0,ob_,jd,zi a b (by omega) (by omega),ob_,hs1,ob_,hsl,ob_,hcp,ob_,k1,ob_]
  cases r9 (ddG wy r)with
  | true=>rfl
  | false=>simp only [cond_false,jd,hbig]
 ·unfold nS
  rw [zi a b (by omega) (by omega),ob_,hs2,ob_,hsl,ob_,hcp,ob_,k2,ob_]
  cases r9 (ddG wy r)with
  | true=>rfl
  | false=>simp only [cond_false,jd,hbig]
 ·cases r9 (ddG wy r)with
  | true=>exact Nat.zero_le _
  | false=>show (ddG wy r).length<=1000;omega
theorem Jf {a b:List Log_} (la:a.length<=12) (lb:b.length<=12) (ga:∀x∈a,GoodL x) (gb:∀x∈b,GoodL x) (hf:or0 (dR a) (dR b)≠0):lg a b=some ([],or0 (dR a) (dR b)):=by
 have e0:l9 (List.range (2:Int).toNat) () (λk x s=>dK a b k x s)=some (.ret ([],or0 (dR a) (dR b))):=by
  rw [iX (by simp)]
  have q0:∀x,dK a b 0 x ()=some (bif (dR a != 0)then .ret ([],dR a)else .go ()):=λx=>by
   unfold dK
   rw [show idx ([a,b]:List (List Log_)) ((0:Nat):Int)=some a from rfl,ob_,xW a ga (by omega),ob_]
   cases (dR a != 0) <;> rfl
  have q1:∀x,dK a b (0+1) x ()=some (bif (dR b != 0)then .ret ([],dR b)else .go ()):=λx=>by
   unfold dK
   rw [show idx ([a,b]:List (List Log_)) ((0+1:Nat):Int)=some b from rfl,ob_,xW b gb (by omega),ob_]
   cases (dR b != 0) <;> rfl
  rw [show List.range (2:Int).toNat=[0,1] from rfl]
  by_cases ha:dR a=0
  ·have hb:dR b≠0:=λh=>hf (by rw [ha,h];rfl)
   have e1:(dR a != 0)=false:=by rw [ha];rfl
   have e2:(dR b != 0)=true:=by simp [hb]
   have e3:or0 (dR a) (dR b)=dR b:=by rw [ha];rfl
   simp only [jU,q0,q1,ob_,e1,e2,e3,cond_true,cond_false]
  ·have e1:(dR a != 0)=true:=by simp [ha]
   have e3:or0 (dR a) (dR b)=dR a:=by unfold or0;rw [show (dR a==0)=false by simp [ha]];rfl
   simp only [jU,q0,ob_,e1,e3,cond_true]
 unfold lg
 rw [e0];rfl
theorem yP (l2:List Int):∀(xs:List Int) (k:Nat),l2.drop k=xs->jU (λk x s=>fM l2 k x s) xs k ()=some (.go ())
 | [],k,hd=>rfl
 | x::xs,k,hd=>by
  have hx:=qK hd
  have h1:fM l2 k x ()=some (.go ()):=by
   unfold fM
   rw [nH,hx,ob_,bne_self_eq_false];rfl
  rw [jU,h1,ob_]
  exact yP l2 xs (k+1) (bR hd)
theorem D9 (l:List Int) (hl:l.length<=1000000000):jy l l=some true:=by
 unfold jy
 rw [bne_self_eq_false,cond_false,iX (by omega),yP l l 0 rfl];rfl
theorem logsMerge (l:List Int):ol l=some true:=by
 unfold ol
 refine ms (Gl ⟨l,0⟩ 6 (by decide) (b:=0) ⟨Int.le_refl _,Int.le_refl _⟩ (by decide)) (λx hx => ?_)
 obtain ⟨o1,hl,hg⟩:=hx
 have hl':x.1.length<=12:=hl
 refine ms (Gl x.2 3 (by decide) o1 (by omega)) (λy hy => ?_)
 obtain ⟨o2,hyl,hyg⟩:=hy
 have hyl':y.1.length<=6:=hyl
 refine ms (P:=λv=>Ok ⟨v.2.1,v.2.2⟩ 900/\(v.1=true->0<x.1.length)) (mc (λh => ?_) (λ_ => ?_)) (λv hv => ?_)
 ·refine mb (xg _ 2 o2 (by omega) (by decide) (by decide)) (λc hc=>mr ⟨hc.mono (by omega),λ_ => ?_⟩)
  simp only [decide_eq_true_eq]at h;omega
 ·exact mr ⟨o2.mono (by omega),λh=>by cases h⟩
 refine ms (P:=λw=>w.1.length<=12/\∀z∈w.1,GoodL z) (mc (λh => ?_) (λ_ => ?_)) (λw hw => ?_)
 ·have hpos:=hv.2 h
  refine mb (BR _ (x.1.length:Int) hv.1 (by omega) (by omega) (by omega)) (λq hq => ?_)
  obtain ⟨q0,q1,q2⟩:=hq
  have hsub:Dl x.1 q.1 (x.1.length:Int)=some (x.1.drop q.1.toNat):=by
   unfold Dl
   rw [if_pos ⟨by omega,by omega,by simp;omega,by simp⟩]
   simp
  rw [hsub,ob_]
  have hcl:dY (x.1.drop q.1.toNat)=some (x.1.drop q.1.toNat):=by
   unfold dY
   rw [oW [] _ (by simp;omega)];simp
  rw [hcl,ob_]
  have hdl:0<(x.1.drop q.1.toNat).length/\(x.1.drop q.1.toNat).length<=12:=by rw [List.length_drop];omega
  have hdg:∀z∈x.1.drop q.1.toNat,GoodL z:=λz hz=>hg z (List.mem_of_mem_drop hz)
  generalize x.1.drop q.1.toNat=d at hdl hdg
  refine mb (xg _ 4 q2 (by omega) (by decide) (by decide)) (λc hc=>mc (λ_ => ?_) (λ_ => ?_))
  ·refine mb (yN c.2 _ hc (by omega) (by simp) (by simp)) (λe he => ?_)
   refine mb (Jw (xs:=d) (k:=0) (by omega) (by omega)) (λ_ _ => ?_)
   refine mb (tL (xs:=d) (k:=0+(0:Int).toNat) (by simpa using hdl.1) hdg) (λz hz=>mr ⟨by rw [List.length_set];exact hdl.2,o7 hdg ⟨hz.1,hz.2.1,hz.2.2.1,hz.2.2.2.1,hz.2.2.2.2.1,?_⟩⟩)
   have:=he.1
   simp only [List.mem_cons,List.not_mem_nil,or_false]at this
   show Med e.1
   unfold Med
   rcases this with h|h <;> omega
  ·exact mr ⟨hdl.2,hdg⟩
 ·exact mr ⟨by show y.1.length<=12;omega,hyg⟩
 obtain ⟨hwl,hwg⟩:=hw
 have er:rq ([dR x.1,dR w.1]:List Int)=some (or0 (dR x.1) (dR w.1)):=errs2 _ _
 rw [logsR x.1 hg (by omega),logsR w.1 hwg (by omega)]
 simp only [ob_,er]
 obtain ⟨m,hm1,hm2,hm3⟩:∃m:List Log_×Int,lg x.1 w.1=some m/\(bif (or0 (dR x.1) (dR w.1)==0)then (nS x.1 w.1).bind λr_56=>some (r_56.2,r_56.1)else some (or0 (dR x.1) (dR w.1),([]:List Log_)))=some (m.2,m.1)/\m.1.length<=1000:=by
  by_cases h0:or0 (dR x.1) (dR w.1)=0
  ·obtain ⟨f1,f2⟩:=or0_0 h0
   obtain ⟨m,k1,k2,k3⟩:=merge2 hl' hwl hg hwg f1 f2
   exact⟨m,k1,by rw [h0,k2];rfl,k3⟩
  ·exact⟨_,Jf hl' hwl hg hwg h0,by rw [show (or0 (dR x.1) (dR w.1)==0)=false by simp [h0]];rfl,Nat.zero_le _⟩
 obtain ⟨bs,ms',hb1,hb2,hb3,hb4,hb5⟩:∃(bs:List Int) (ms:List Log_),lq x.1=some (bs,dR x.1)/\kF x.1=some (ms,dR x.1)/\(bif (dR x.1==0)then (lZ x.1).bind λr_65=>(lG x.1).bind λr_67=>some (r_67,r_65)else some (([]:List Log_),([]:List Int)))=some (ms,bs)/\bs.length<=1000/\ms.length<=1000:=by
  by_cases h0:dR x.1=0
  ·obtain ⟨r,k1,k2,k3⟩:=broken2 (by omega) hg h0
   obtain ⟨t,j1,j2,j3⟩:=Jg (by omega) hg h0
   exact⟨r,t,by rw [k1,h0],by rw [j1,h0],by rw [h0,k2,j2];rfl,k3,j3⟩
  ·have e1:(dR x.1 != 0)=true:=by simp [h0]
   have e2:(dR x.1==0)=false:=by simp [h0]
   refine⟨[],[],?_,?_,by rw [e2];rfl,Nat.zero_le _,Nat.zero_le _⟩
   ·unfold lq
    rw [xW x.1 hg (by omega),ob_,e1];rfl
   ·unfold kF
    rw [xW x.1 hg (by omega),ob_,e1];rfl
 rw [hm1,ob_,hb1,ob_,hb2,ob_,hm2,ob_,hb3,ob_]
 have q1:(m.2==m.2)=true:=by simp
 have q2:(dR x.1==dR x.1)=true:=by simp
 simp only [q1,q2,xV m.1 (by omega),D9 bs (by omega),xV ms' (by omega),G9,cond_true,ob_]
end Go.Proofs.YtdpginbnipklcaaGreatDoor.Law

